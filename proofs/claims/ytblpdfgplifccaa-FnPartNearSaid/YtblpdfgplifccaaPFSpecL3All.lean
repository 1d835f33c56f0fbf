-- printed for this claim by a program
import Derived.Test.YtblpdfgplifccaaPx0
import Derived.Test.YtblpdfgplifccaaHUp
namespace Go.Proofs.Ytblpdfgplifccaa.P
open Go.RowKit Go.Proofs.YtblpdfgplifccaaV.PrintWords Go.Proofs.YtblpdfgplifccaaV.PrintLast
set_option linter.unusedVariables false
set_option linter.unusedSimpArgs false

/-! ### spec_l3All: function 87 -/
mutual
def spec_l3All.l0 : Nat → Int → List Int → Int → Int → List (S33) → Option (List Int)
 | 0, _, _, _, _, _ => none
 | k + 1, x1, x5, x6, x102000, x102001 => if x6 < x102000 then (if 0 ≤ x6 then (if x6 < (x5.length : Int) then (spec_l3All.l0 k x1 (x5.set (x6 : Int).toNat 99999) (wrap64 (x6 + 1)) x102000 x102001) else (none)) else (none)) else (if 0 ≤ x1 then (if x1 < (x5.length : Int) then (spec_l3All.l1 k (x5.set (x1 : Int).toNat 0) 0 x102000 x102001) else (none)) else (none))
def spec_l3All.l1 : Nat → List Int → Int → Int → List (S33) → Option (List Int)
 | 0, _, _, _, _ => none
 | k + 1, x5, x7, x102000, x102001 => if x7 < x102000 then (spec_l3All.l2 k x5 x7 0 x102000 x102001) else (some x5)
def spec_l3All.l2 : Nat → List Int → Int → Int → Int → List (S33) → Option (List Int)
 | 0, _, _, _, _, _ => none
 | k + 1, x5, x7, x8, x102000, x102001 => if x8 < (x102001.length : Int) then (if 0 ≤ x8 then (if 0 ≤ ((rd_T33 x102001 x8).f0) then (if ((rd_T33 x102001 x8).f0) < (x5.length : Int) then (if (rd x5 ((rd_T33 x102001 x8).f0)) < 99999 then (if 0 ≤ ((rd_T33 x102001 x8).f1) then (if ((rd_T33 x102001 x8).f1) < (x5.length : Int) then (if (wrap64 ((rd x5 ((rd_T33 x102001 x8).f0)) + ((rd_T33 x102001 x8).f2))) < (rd x5 ((rd_T33 x102001 x8).f1)) then (spec_l3All.l2 k (x5.set (((rd_T33 x102001 x8).f1) : Int).toNat (wrap64 ((rd x5 ((rd_T33 x102001 x8).f0)) + ((rd_T33 x102001 x8).f2)))) x7 (wrap64 (x8 + 1)) x102000 x102001) else (spec_l3All.l2 k x5 x7 (wrap64 (x8 + 1)) x102000 x102001)) else (none)) else (none)) else (spec_l3All.l2 k x5 x7 (wrap64 (x8 + 1)) x102000 x102001)) else (none)) else (none)) else (none)) else (spec_l3All.l1 k x5 (wrap64 (x7 + 1)) x102000 x102001)
end
def spec_l3All.f (k : Nat) (a0_0 : Int) (l0_1 : List (S33)) (a1 : Int) : Option (List Int) := if 0 ≤ a0_0 then (if (a0_0 : Int).toNat ≤ 35184372088832 then (spec_l3All.l0 k a1 (List.replicate (a0_0 : Int).toNat 0) 0 a0_0 l0_1) else (none)) else (none)
def spec_l3All.T14 : Bool × List (List Nat × List Nat) := (true, [([], []), ([], []), ([1], [1]), ([0, 2], [0, 2]), ([3], [3]), ([4], [4]), ([5], [5]), ([6], [6]), ([6], [6]), ([8, 6], [6, 8]), ([7, 9, 6], [6, 7, 9]), ([10, 6], [6, 10]), ([6], [6]), ([12, 6], [6, 12]), ([11, 13, 6], [6, 11, 13]), ([6], [6]), ([6], [6]), ([16, 6], [6, 16]), ([15, 17, 6], [6, 15, 17]), ([18, 6], [6, 18]), ([14, 19, 6], [6, 14, 19]), ([6, 20], [6, 20])])
def spec_l3All.B14 : List Nat := [0, 0, 2, 7, 15, 31, 63, 127, 127, 383, 1023, 2047, 127, 4223, 16383, 127, 127, 65663, 229503, 491647, 1048575, 2097151]
theorem spec_l3All.tab14 : rtab .any (opsOf Try.f87 14) = spec_l3All.T14 := by kernel_rfl
theorem spec_l3All.bits14 : waitsOk spec_l3All.T14.2 spec_l3All.B14 = true := by kernel_rfl
def spec_l3All.T15 : Bool × List (List Nat × List Nat) := (true, [([], []), ([], []), ([1], [1]), ([], []), ([], []), ([4], [4]), ([3, 5], [3, 5]), ([6], [6]), ([], []), ([8], [8]), ([7, 9], [7, 9]), ([0, 2, 0, 1, 2, 3, 4, 5, 6, 7, 8, 9, 10], [0, 2]), ([11, 10, 0, 1, 2, 3, 4, 5, 6, 7, 8, 9, 10], [10, 11])])
def spec_l3All.B15 : List Nat := [0, 0, 2, 0, 0, 16, 56, 120, 0, 256, 1016, 2047, 4095]
theorem spec_l3All.tab15 : rtab .any (opsOf Try.f87 15) = spec_l3All.T15 := by kernel_rfl
theorem spec_l3All.bits15 : waitsOk spec_l3All.T15.2 spec_l3All.B15 = true := by kernel_rfl
set_option maxHeartbeats 8000000 in
set_option maxRecDepth 100000 in
theorem spec_l3All.calls (k : Nat) (a0_0 : Int) (A0_1 : Option Addr) (c0_1 : Nat) (l0_1 : List (S33)) (a1 : Int) (r : List Int) (w : World) (hr0_1 : Kd.C k33 w A0_1 l0_1.length l0_1) (hc0_1 : l0_1.length ≤ c0_1) (h : spec_l3All.f k a0_0 l0_1 a1 = some r) :
  Calls Try.prog 87 #[.agg #[.int .i64 a0_0, .slice A0_1 l0_1.length c0_1], .int .i64 a1] w fun e w' => ∃ v0_ : Value, e = .returned (v0_) ∧ Kd.R (Kd.int .i64) 3 w' w.heap.size (fun _ => True) v0_ r ∧ Below w.heap.size w w' := by
 have hu25 := Try.underlying25
 have hu33 := Try.underlying33
 have jL := Aside0.mk hr0_1
 have j1o := Aside0.mk hc0_1
 clear hr0_1 hc0_1
 have HB := Aside0.mk (Below.refl w.heap.size w)
 have H : (if 0 ≤ a0_0 then (if (a0_0 : Int).toNat ≤ 35184372088832 then (spec_l3All.l0 k a1 (List.replicate (a0_0 : Int).toNat 0) 0 a0_0 l0_1) else (none)) else (none)) = some r := h
 clear h
 by_cases c3 : 0 ≤ a0_0
 ·
  rw [if_pos c3] at H; have j18 := eq_true c3; have j19 := de c3; clear c3; by_cases c4 : (a0_0 : Int).toNat ≤ 35184372088832
  ·
   rw [if_pos c4] at H; have j1a := eq_true c4; have j1b := de c4; clear c4; obtain ⟨j08, jn⟩ : ∃ y_ : List Int, y_ = (List.replicate (a0_0 : Int).toNat 0) := ⟨_, rfl⟩
   replace H : (spec_l3All.l0 k a1 j08 0 a0_0 l0_1) = some r := by first | (rw [jn]; with_reducible exact H) | (have H2_ := (Option.bind_some _ _).symm.trans H; rw [jn]; with_reducible exact H2_) | (have H2_ := (Option.bind_some _ _).symm.trans H; with_reducible exact H2_) | with_reducible exact H | (rw [jn]; exact H) | exact H
   have j09 := Aside0.mk jn; clear jn; have H' := Aside0.mk H; clear H; go_enter Try.func87, Try.ntmps87; go_wp2_with (first | ((with_reducible refine gate_dst (N := 2) rfl ?_); refine be (cs := #[.int .i64 a0_0, .slice A0_1 l0_1.length c0_1]) (t := 25) ?_; intro jo hg w5 hbox hb; have j2 := Aside0.mk (hbox); have j1p := gz w hg (uB0 HB); have j5 := gz w hg (uB0 HB); replace HB := Aside0.mk (below_step (uB0 HB) hb); clear hb hbox hg; obtain ⟨jN, jO, jP, jQ⟩ := bc2 j2) | ((with_reducible refine gate_dst (N := 12) rfl ?_); refine Kd.R_make (Kd.int .i64) _ 3 rfl (N := 12) rfl 26 _ _ rfl a0_0 rfl rfl Try.underlying26 (.int .i64 0) 8 info3 rfl (by decide) (by omega) 0 (ok := fun _ => True) (okp := fun _ => True) rfl (fun _ hk => hk) trivial (ua) (Nat.le_trans (Nat.mul_le_mul_right _ (ua : a0_0.toNat ≤ 35184372088832)) (by omega)) (Below.refl _ _) (Nat.le_refl _) ?_; intro v103 w7 ho8 hb hg_ hnew_; clear hg_ hnew_; (rw [← j09.out] at ho8); have j0a := Aside0.mk (Kd.R_lower ho8 (below_size (uB1 HB j5.out))); replace j2 := bb j2 hb; replace HB := Aside0.mk (below_step (uB1 HB j5.out) hb); clear hb ho8)); go_loopg [6] k (fun kq v6 w' => ∃ (ji : List Int) (jb : Int), v6 = .int .i64 jb ∧ Aside0 (spec_l3All.l0 kq a1 ji jb a0_0 l0_1 = some r) ∧ Aside0 (kq ≤ k) ∧ Aside0 (Kd.R (Kd.int .i64) 3 w' w.heap.size (fun _ => True) v103 ji) ∧ Aside0 (w'.heap[jo]? = some (.cells #[.int .i64 a0_0, (.slice A0_1 l0_1.length c0_1)] 25 (0, 0))) ∧ Aside0 (Below w.heap.size w w'))
   case atStart => exact ⟨(j08), (0), ue, H', ⟨Nat.le_refl _⟩, ⟨ur j0a⟩, ⟨ub j2⟩, ⟨uB1 HB j5.out⟩⟩
   case round =>
    clear H'
    clear j18 j19 j1a j1b jN jO jP jQ
    obtain ⟨ji, jb, rfl, HA, HK1, j3, j2, HB⟩ := hrel
    cases gk with
    | zero => exact absurd HA.out (by simp [spec_l3All.l0])
    | succ k1 =>
     have H := HA.out; clear HA; simp only [spec_l3All.l0] at H; by_cases c9 : jb < a0_0
     ·
      rw [if_pos c9] at H; have j0b := dl c9; clear c9; by_cases c10 : 0 ≤ jb
      ·
       rw [if_pos c10] at H; have j1q := de c10; clear c10; by_cases c11 : jb < (ji.length : Int)
       ·
        rw [if_pos c11] at H; have j1r := dl c11; clear c11; obtain ⟨jR, jp⟩ : ∃ y_ : List Int, y_ = (ji.set (jb : Int).toNat 99999) := ⟨_, rfl⟩
        replace H : (spec_l3All.l0 k1 a1 jR (wrap64 (jb + 1)) a0_0 l0_1) = some r := by first | (rw [jp]; with_reducible exact H) | (have H2_ := (Option.bind_some _ _).symm.trans H; rw [jp]; with_reducible exact H2_) | (have H2_ := (Option.bind_some _ _).symm.trans H; with_reducible exact H2_) | with_reducible exact H | (rw [jp]; exact H) | exact H
        have j0c := Aside0.mk jp; clear jp; have H' := Aside0.mk H; clear H; obtain ⟨j0u, j0v, j0w, j0x⟩ := bc2 j2; have p12 : 0 ≤ (jb : Int) := ua; have q12 : (jb : Int) < ((ji.length : Int) : Int) := ua; obtain ⟨jS, j1c, j1d, j0d, j1e, j1B, j0e⟩ := Kd.R_form j3.out (by omega); (cases j1d); have j1f := Aside0.mk j0d; have j1C := Aside0.mk j0e; clear j0d j1e j0e; obtain ⟨j1g, j1h⟩ := Kd.R_celln 0 j3.out (jb : Int) p12 q12; replace p12 := eq_true p12; replace q12 := eq_true q12; have jT := Kd.R_putg j3.out (jb : Int) 99999; go_wp2_with (((with_reducible refine gate_store (t := 3) (p := 21) rfl ?_); refine store_event (t := 3) (p := 21) (v := ?vo_w15) (w1 := (wr.setCell ⟨jS, (jb : Int).toNat, none⟩ (.int .i64 99999))) ?hg ?ho ?hn ?hr ?_; (case ho => rfl); (case hg => rfl); (case hn => rfl); (case hr => first | (go_simp; done) | (go_simp; rfl)); intro w15 hw; have hg : wr.grownBy w15 (some jS) := (by rw [hw]; exact jT.2); have hp_ : Kd.R (Kd.int .i64) 3 w15 w.heap.size (fun _ => True) (.slice (some ⟨jS, 0, none⟩) ji.length j1c) jR := (by rw [hw, j0c.out]; exact jT.1); clear jT; replace j2 := bg j2 hg (Kd.R_ne j3.out j2.out (by decide)); replace j3 := Aside0.mk (hp_); replace HB := Aside0.mk ((by rw [hw]; exact below_set (HB.out) j1f.out : Below w.heap.size w w15)); clear hg hw hp_)); go_roundg k1
        case measure => have := HK1.out; omega
        case rel => exact ⟨(jR), (wrap64 (jb + 1)), ue, H', ⟨by have := HK1.out; omega⟩, ⟨ur j3⟩, ⟨ub j2⟩, ⟨uB1 HB j5.out⟩⟩
       ·
        rw [if_neg c11] at H; exact absurd H (by simp)
      ·
       rw [if_neg c10] at H; exact absurd H (by simp)
     ·
      rw [if_neg c9] at H; have j0b := DL c9; clear c9; by_cases c16 : 0 ≤ a1
      ·
       rw [if_pos c16] at H; have j0f := de c16; clear c16; by_cases c17 : a1 < (ji.length : Int)
       ·
        rw [if_pos c17] at H; have j0g := dl c17; clear c17; obtain ⟨jU, jq⟩ : ∃ y_ : List Int, y_ = (ji.set (a1 : Int).toNat 0) := ⟨_, rfl⟩
        replace H : (spec_l3All.l1 k1 jU 0 a0_0 l0_1) = some r := by first | (rw [jq]; with_reducible exact H) | (have H2_ := (Option.bind_some _ _).symm.trans H; rw [jq]; with_reducible exact H2_) | (have H2_ := (Option.bind_some _ _).symm.trans H; with_reducible exact H2_) | with_reducible exact H | (rw [jq]; exact H) | exact H
        have j0h := Aside0.mk jq; clear jq; have H' := Aside0.mk H; clear H; obtain ⟨jD, jE, jF, jG⟩ := bc2 j2; have p18 : 0 ≤ (a1 : Int) := ua; have q18 : (a1 : Int) < ((ji.length : Int) : Int) := ua; obtain ⟨j9, jy, j1i, j0i, j1j, j1D, j0j⟩ := Kd.R_form j3.out (by omega); (cases j1i); have j0k := Aside0.mk j0i; have j1E := Aside0.mk j0j; clear j0i j1j j0j; obtain ⟨jV, j1k⟩ := Kd.R_celln 0 j3.out (a1 : Int) p18 q18; replace p18 := eq_true p18; replace q18 := eq_true q18; have jW := Kd.R_putg j3.out (a1 : Int) 0; go_wp2_with (((with_reducible refine gate_store (t := 3) (p := 24) rfl ?_); refine store_event (t := 3) (p := 24) (v := ?vo_w21) (w1 := (wr.setCell ⟨j9, (a1 : Int).toNat, none⟩ (.int .i64 0))) ?hg ?ho ?hn ?hr ?_; (case ho => rfl); (case hg => rfl); (case hn => rfl); (case hr => first | (go_simp; done) | (go_simp; rfl)); intro w21 hw; have hg : wr.grownBy w21 (some j9) := (by rw [hw]; exact jW.2); have hp_ : Kd.R (Kd.int .i64) 3 w21 w.heap.size (fun _ => True) (.slice (some ⟨j9, 0, none⟩) ji.length jy) jU := (by rw [hw, j0h.out]; exact jW.1); clear jW; replace j2 := bg j2 hg (Kd.R_ne j3.out j2.out (by decide)); replace j3 := Aside0.mk (hp_); replace HB := Aside0.mk ((by rw [hw]; exact below_set (HB.out) j0k.out : Below w.heap.size w w21)); clear hg hw hp_)); go_loopg [7] k1 (fun kq v7 w' => ∃ (jz : List Int) (js : Int), v7 = .int .i64 js ∧ Aside0 (spec_l3All.l1 kq jz js a0_0 l0_1 = some r) ∧ Aside0 (kq ≤ k1) ∧ Aside0 (Kd.R (Kd.int .i64) 3 w' w.heap.size (fun _ => True) (.slice (some ⟨j9, 0, none⟩) ji.length jy) jz) ∧ Aside0 (w'.heap[jo]? = some (.cells #[.int .i64 a0_0, (.slice A0_1 l0_1.length c0_1)] 25 (0, 0))) ∧ Aside0 (Below w.heap.size w w'))
        case atStart => exact ⟨(jU), (0), ue, H', ⟨Nat.le_refl _⟩, ⟨ur j3⟩, ⟨ub j2⟩, ⟨uB1 HB j5.out⟩⟩
        case round =>
         clear H'
         clear j0b j0f j0g p18 q18 jD jE jF jG jV
         obtain ⟨jz, js, rfl, HA, HK2, j3, j2, HB⟩ := hrel; have jx := (Kd.R_reads' j3.out).1; rw [jx] at j3; (try simp only [jx])
         cases gk with
         | zero => exact absurd HA.out (by simp [spec_l3All.l1])
         | succ k2 =>
          have H := HA.out; clear HA; simp only [spec_l3All.l1] at H; by_cases c22 : js < a0_0
          ·
           rw [if_pos c22] at H; have jM := dl c22; clear c22; have H' := Aside0.mk H; clear H; obtain ⟨jH, jI, jJ, jK⟩ := bc2 j2; go_wp2; go_loopg [8] k2 (fun kq v8 w' => ∃ (j6 : List Int) (j0 : Int), v8 = .int .i64 j0 ∧ Aside0 (spec_l3All.l2 kq j6 js j0 a0_0 l0_1 = some r) ∧ Aside0 (kq ≤ k2) ∧ Aside0 (Kd.R (Kd.int .i64) 3 w' w.heap.size (fun _ => True) (.slice (some ⟨j9, 0, none⟩) jz.length jy) j6) ∧ Aside0 (w'.heap[jo]? = some (.cells #[.int .i64 a0_0, (.slice A0_1 l0_1.length c0_1)] 25 (0, 0))) ∧ Aside0 (Below w.heap.size w w'))
           case atStart => exact ⟨(jz), (0), ue, H', ⟨Nat.le_refl _⟩, ⟨by exact ur j3⟩, ⟨by exact ub j2⟩, ⟨uB1 HB j5.out⟩⟩
           case round =>
            clear H'
            clear jM jH jI jJ jK
            obtain ⟨j6, j0, rfl, HA, HK3, j3, j2, HB⟩ := hrel; have ja := (Kd.R_reads' j3.out).1; rw [ja] at j3; (try simp only [ja])
            cases gk with
            | zero => exact absurd HA.out (by simp [spec_l3All.l2])
            | succ k3 =>
             have H := HA.out; clear HA; simp only [spec_l3All.l2] at H; by_cases c24 : j0 < (l0_1.length : Int)
             ·
              rw [if_pos c24] at H; have j0l := dl c24; clear c24; by_cases c25 : 0 ≤ j0
              ·
               rw [if_pos c25] at H; have j1s := de c25; clear c25; by_cases c26 : 0 ≤ ((rd_T33 l0_1 j0).f0)
               ·
                rw [if_pos c26] at H; have j1t := de c26; clear c26; by_cases c27 : ((rd_T33 l0_1 j0).f0) < (j6.length : Int)
                ·
                 rw [if_pos c27] at H; have j1u := dl c27; clear c27; by_cases c28 : (rd j6 ((rd_T33 l0_1 j0).f0)) < 99999
                 ·
                  rw [if_pos c28] at H; have j0m := dl c28; clear c28; by_cases c29 : 0 ≤ ((rd_T33 l0_1 j0).f1)
                  ·
                   rw [if_pos c29] at H; have j1v := de c29; clear c29; by_cases c30 : ((rd_T33 l0_1 j0).f1) < (j6.length : Int)
                   ·
                    rw [if_pos c30] at H; have j1w := dl c30; clear c30; have HH_ := Aside0.mk H; clear H; obtain ⟨j0y, j0z, j0A, j0B⟩ := bc2 j2; have jt : 0 ≤ (j0 : Int) := ua; have ju : j0 < (l0_1.length : Int) := ua; obtain ⟨jA, jX, jc, jd, je, jf, jg⟩ := at_T33 jL.out j0 jt ju
                    cases jX
                    replace jc := uc HB jc; replace jd := uc HB jd; replace je := uc HB je; replace jf := uc HB jf; replace jg := uc HB jg; replace jt := eq_true jt; replace ju := eq_true ju; try go_wp2_with (((with_reducible refine gate_dst (N := 9) rfl ?_); refine be (cs := #[.int .i64 0, .int .i64 0, .int .i64 0, .int .i64 0, .int .i64 0]) (t := 33) ?_; intro j1 hg w32 hbox hb; replace j3 := Aside0.mk (Kd.R_below (ur j3) hb); have j4 := Aside0.mk (hbox); have j0n := gz w hg (uB1 HB j5.out); have jj := gz w hg (uB1 HB j5.out); replace HB := Aside0.mk (below_step (uB1 HB j5.out) hb); have j7 := gl hg j2; have jh := gr hg j2; replace j2 := bb j2 hb; clear hb hbox hg; have j1x := jh.out; have j1y := j7.out; obtain ⟨j0C, j0D, j0E, j0F, j0G, j0H, j0I, j0J, j0K, j0L⟩ := bc5 j4))
                    have n0_ : Aside0 (Kd.R (Kd.int .i64) 3 (((((w32.setCell ⟨j1, 0, none⟩ (.int .i64 ((rd_T33 l0_1 j0).f0))).setCell ⟨j1, 1, none⟩ (.int .i64 ((rd_T33 l0_1 j0).f1))).setCell ⟨j1, 2, none⟩ (.int .i64 ((rd_T33 l0_1 j0).f2))).setCell ⟨j1, 3, none⟩ (.int .i64 ((rd_T33 l0_1 j0).f3))).setCell ⟨j1, 4, none⟩ (.int .i64 ((rd_T33 l0_1 j0).f4))) w.heap.size (fun _ => True) (.slice (some ⟨j9, 0, none⟩) j6.length jy) j6) := ⟨by (with_reducible repeat (first | apply Kd.R_alloc | apply Kd.R_drewN | apply Kd.R_drew)); exact Kd.R_mono (rf5 j3 j4) (fun _ hk => trivial)⟩
                    have n1_ : Aside0 ((((((w32.setCell ⟨j1, 0, none⟩ (.int .i64 ((rd_T33 l0_1 j0).f0))).setCell ⟨j1, 1, none⟩ (.int .i64 ((rd_T33 l0_1 j0).f1))).setCell ⟨j1, 2, none⟩ (.int .i64 ((rd_T33 l0_1 j0).f2))).setCell ⟨j1, 3, none⟩ (.int .i64 ((rd_T33 l0_1 j0).f3))).setCell ⟨j1, 4, none⟩ (.int .i64 ((rd_T33 l0_1 j0).f4))).heap[jo]? = some (.cells #[.int .i64 a0_0, .slice (some jA) l0_1.length c0_1] 25 (0, 0))) := ⟨by (with_reducible repeat first | apply zbn | apply zbd | apply zba); refine fa5 ?_ j7; exact ub j2⟩
                    have n2_ : Aside0 ((((((w32.setCell ⟨j1, 0, none⟩ (.int .i64 ((rd_T33 l0_1 j0).f0))).setCell ⟨j1, 1, none⟩ (.int .i64 ((rd_T33 l0_1 j0).f1))).setCell ⟨j1, 2, none⟩ (.int .i64 ((rd_T33 l0_1 j0).f2))).setCell ⟨j1, 3, none⟩ (.int .i64 ((rd_T33 l0_1 j0).f3))).setCell ⟨j1, 4, none⟩ (.int .i64 ((rd_T33 l0_1 j0).f4))).heap[j1]? = some (.cells #[.int .i64 ((rd_T33 l0_1 j0).f0), .int .i64 ((rd_T33 l0_1 j0).f1), .int .i64 ((rd_T33 l0_1 j0).f2), .int .i64 ((rd_T33 l0_1 j0).f3), .int .i64 ((rd_T33 l0_1 j0).f4)] 33 (0, 0))) := ⟨by (with_reducible repeat first | apply zbn | apply zbd | apply zba); refine pu5 (.int .i64 0) (.int .i64 0) (.int .i64 0) (.int .i64 0) (.int .i64 0) ?_; exact ub j4⟩
                    have n3_ : Aside0 (Below w.heap.size w (((((w32.setCell ⟨j1, 0, none⟩ (.int .i64 ((rd_T33 l0_1 j0).f0))).setCell ⟨j1, 1, none⟩ (.int .i64 ((rd_T33 l0_1 j0).f1))).setCell ⟨j1, 2, none⟩ (.int .i64 ((rd_T33 l0_1 j0).f2))).setCell ⟨j1, 3, none⟩ (.int .i64 ((rd_T33 l0_1 j0).f3))).setCell ⟨j1, 4, none⟩ (.int .i64 ((rd_T33 l0_1 j0).f4)))) := ⟨uB2 HB j5.out jj.out⟩
                    (try clear j3); (try clear j2); (try clear j4); (try clear HB); generalize (((((w32.setCell ⟨j1, 0, none⟩ (.int .i64 ((rd_T33 l0_1 j0).f0))).setCell ⟨j1, 1, none⟩ (.int .i64 ((rd_T33 l0_1 j0).f1))).setCell ⟨j1, 2, none⟩ (.int .i64 ((rd_T33 l0_1 j0).f2))).setCell ⟨j1, 3, none⟩ (.int .i64 ((rd_T33 l0_1 j0).f3))).setCell ⟨j1, 4, none⟩ (.int .i64 ((rd_T33 l0_1 j0).f4))) = w35 at n0_ n1_ n2_ n3_ ⊢; have j3 := n0_; have j2 := n1_; have j4 := n2_; have HB := n3_; clear n0_ n1_ n2_ n3_; replace j3 := Aside0.mk (Kd.R_drew j3.out); replace j2 := Aside0.mk (blk_drew j2.out); replace j4 := Aside0.mk (blk_drew j4.out); replace HB := Aside0.mk (below_drew1 HB.out); have jv : 0 ≤ (((rd_T33 l0_1 j0).f0) : Int) := ua; have jw : ((rd_T33 l0_1 j0).f0) < (j6.length : Int) := ua; obtain ⟨jB, jY, j8⟩ := Kd.at_int (Kd.R_reads' j3.out).2.2 ((rd_T33 l0_1 j0).f0) jv jw; obtain rfl : (⟨j9, 0, none⟩ : Addr) = jB := (by injection jY)
                    (simp only [add_plain] at j8); replace jv := eq_true jv; replace jw := eq_true jw; have jZ : 0 ≤ (((rd_T33 l0_1 j0).f0) : Int) := ua; have j00 : ((rd_T33 l0_1 j0).f0) < (j6.length : Int) := ua; obtain ⟨j0o, j1l, jk⟩ := Kd.at_int (Kd.R_reads' j3.out).2.2 ((rd_T33 l0_1 j0).f0) jZ j00; obtain rfl : (⟨j9, 0, none⟩ : Addr) = j0o := (by injection j1l)
                    (simp only [add_plain] at jk); replace jZ := eq_true jZ; replace j00 := eq_true j00; have j01 : 0 ≤ (((rd_T33 l0_1 j0).f1) : Int) := ua; have j02 : ((rd_T33 l0_1 j0).f1) < (j6.length : Int) := ua; obtain ⟨j0p, j1m, jl⟩ := Kd.at_int (Kd.R_reads' j3.out).2.2 ((rd_T33 l0_1 j0).f1) j01 j02; obtain rfl : (⟨j9, 0, none⟩ : Addr) = j0p := (by injection j1m)
                    (simp only [add_plain] at jl); replace j01 := eq_true j01; replace j02 := eq_true j02; refine start_ (n := 22) (S := fun w' => w'.cell? ⟨j1, 0, none⟩ = some (.int .i64 ((rd_T33 l0_1 j0).f0)) ∧ w'.cell? ⟨j1, 1, none⟩ = some (.int .i64 ((rd_T33 l0_1 j0).f1)) ∧ w'.cell? ⟨j1, 2, none⟩ = some (.int .i64 ((rd_T33 l0_1 j0).f2)) ∧ w'.cell? ⟨j1, 3, none⟩ = some (.int .i64 ((rd_T33 l0_1 j0).f3)) ∧ w'.cell? ⟨j1, 4, none⟩ = some (.int .i64 ((rd_T33 l0_1 j0).f4)) ∧ w'.cell? ⟨j9, (((rd_T33 l0_1 j0).f0)).toNat, none⟩ = some (.int .i64 (rd j6 ((rd_T33 l0_1 j0).f0))) ∧ w'.cell? ⟨j9, (((rd_T33 l0_1 j0).f0)).toNat, none⟩ = some (.int .i64 (rd j6 ((rd_T33 l0_1 j0).f0))) ∧ w'.cell? ⟨j9, (((rd_T33 l0_1 j0).f1)).toNat, none⟩ = some (.int .i64 (rd j6 ((rd_T33 l0_1 j0).f1)))) (ds := []) (zt 22 0) (by kernel_rfl) rfl (by kernel_rfl) (b5x j4 ⟨j8, jk, jl⟩) (fun hHeld => ?_); refine with_tabW spec_l3All.tab14 spec_l3All.bits14 (fun HT_ HW_ => ?_); generalize w35.drew = w36 at j3 j2 j4 HB j8 jk jl hHeld ⊢; refine qz HT_ 0 ?_; refine qz HT_ 1 ?_; refine qt HT_ HW_ hHeld 2 ?_; refine qz HT_ 3 ?_; refine qt HT_ HW_ hHeld 4 ?_; refine qz HT_ 5 ?_; refine qz HT_ 6 ?_; refine qz HT_ 7 ?_; refine qz HT_ 8 ?_; refine qz HT_ 12 ?_; refine qz HT_ 15 ?_; refine qz HT_ 16 ?_; refine qt HT_ HW_ hHeld 9 ?_; refine qz HT_ 10 ?_; refine qt HT_ HW_ hHeld 11 ?_; refine qt HT_ HW_ hHeld 13 ?_; refine qz HT_ 14 ?_; refine qt HT_ HW_ hHeld 17 ?_; refine qz HT_ 18 ?_; refine qt HT_ HW_ hHeld 19 ?_; refine qz HT_ 20 ?_; refine qz HT_ 21 ?_; refine done_ (done_of HT_.out (by kernel_rfl)) ?_; have H := HH_.out; clear HH_; by_cases c37 : (wrap64 ((rd j6 ((rd_T33 l0_1 j0).f0)) + ((rd_T33 l0_1 j0).f2))) < (rd j6 ((rd_T33 l0_1 j0).f1))
                    ·
                     rw [if_pos c37] at H; have jC := dl c37; try simp only [jC]
                     clear c37; obtain ⟨j0q, jr⟩ : ∃ y_ : List Int, y_ = (j6.set (((rd_T33 l0_1 j0).f1) : Int).toNat (wrap64 ((rd j6 ((rd_T33 l0_1 j0).f0)) + ((rd_T33 l0_1 j0).f2)))) := ⟨_, rfl⟩
                     replace H : (spec_l3All.l2 k3 j0q js (wrap64 (j0 + 1)) a0_0 l0_1) = some r := by first | (rw [jr]; with_reducible exact H) | (have H2_ := (Option.bind_some _ _).symm.trans H; rw [jr]; with_reducible exact H2_) | (have H2_ := (Option.bind_some _ _).symm.trans H; with_reducible exact H2_) | with_reducible exact H | (rw [jr]; exact H) | exact H
                     have j0r := Aside0.mk jr; clear jr; have H' := Aside0.mk H; clear H; try go_wp2
                     replace j3 := Aside0.mk (Kd.R_drew j3.out); replace j2 := Aside0.mk (blk_drew j2.out); replace j4 := Aside0.mk (blk_drew j4.out); replace HB := Aside0.mk (below_drew1 HB.out); have j03 : 0 ≤ (((rd_T33 l0_1 j0).f0) : Int) := ua; have j04 : ((rd_T33 l0_1 j0).f0) < (j6.length : Int) := ua; obtain ⟨j0s, j1n, jm⟩ := Kd.at_int (Kd.R_reads' j3.out).2.2 ((rd_T33 l0_1 j0).f0) j03 j04; obtain rfl : (⟨j9, 0, none⟩ : Addr) = j0s := (by injection j1n)
                     (simp only [add_plain] at jm); replace j03 := eq_true j03; replace j04 := eq_true j04; have p38 : 0 ≤ (((rd_T33 l0_1 j0).f1) : Int) := ua; have q38 : (((rd_T33 l0_1 j0).f1) : Int) < ((j6.length : Int) : Int) := ua; obtain ⟨j05, j06⟩ := Kd.R_celln 0 j3.out (((rd_T33 l0_1 j0).f1) : Int) p38 q38; replace p38 := eq_true p38; replace q38 := eq_true q38; have j07 := Kd.R_putn j3.out (((rd_T33 l0_1 j0).f1) : Int) (wrap64 ((rd j6 ((rd_T33 l0_1 j0).f0)) + ((rd_T33 l0_1 j0).f2))); rw [← j0r.out] at j07; have j0t := Aside0.mk j07; clear j07; refine start_ (n := 13) (S := fun w' => w'.cell? ⟨j1, 0, none⟩ = some (.int .i64 ((rd_T33 l0_1 j0).f0)) ∧ w'.cell? ⟨j1, 1, none⟩ = some (.int .i64 ((rd_T33 l0_1 j0).f1)) ∧ w'.cell? ⟨j1, 2, none⟩ = some (.int .i64 ((rd_T33 l0_1 j0).f2)) ∧ w'.cell? ⟨j1, 3, none⟩ = some (.int .i64 ((rd_T33 l0_1 j0).f3)) ∧ w'.cell? ⟨j1, 4, none⟩ = some (.int .i64 ((rd_T33 l0_1 j0).f4)) ∧ w'.cell? ⟨j9, (((rd_T33 l0_1 j0).f0)).toNat, none⟩ = some (.int .i64 (rd j6 ((rd_T33 l0_1 j0).f0)))) (ds := [12]) (zt 13 0) (by kernel_rfl) rfl (by kernel_rfl) (b5x j4 jm) (fun hHeld => ?_); refine with_tabW spec_l3All.tab15 spec_l3All.bits15 (fun HT_ HW_ => ?_); generalize w36.drew = w37 at j3 j2 j4 HB j0t j06 jm j05 hHeld ⊢; refine qz HT_ 0 ?_; refine qz HT_ 1 ?_; refine qz HT_ 3 ?_; refine qz HT_ 4 ?_; refine qz HT_ 8 ?_; refine qt HT_ HW_ hHeld 2 ?_; refine qt HT_ HW_ hHeld 5 ?_; refine qz HT_ 6 ?_; refine qt HT_ HW_ hHeld 7 ?_; refine qt HT_ HW_ hHeld 9 ?_; refine qz HT_ 10 ?_; refine qz HT_ 11 ?_; refine last_ (i := 12) (N := none) (zt 13 8191) rfl rfl (one_of HT_.out (by kernel_rfl)) (by decide) (fun K hK => ?_); refine skip_ (w1 := ?_) (by rfl) rfl ?_ ?_; rotate_left
                     ·
                      go_simp; rfl
                     refine hK.out _ _ ?_; clear hK K; refine done_ (done_of HT_.out (by kernel_rfl)) ?_; try go_wp2
                     (try simp only [← ja]); go_roundg k3
                     case measure => have := HK1.out; have := HK2.out; have := HK3.out; omega
                     case rel => exact ⟨(j0q), (wrap64 (j0 + 1)), ue, H', ⟨by have := HK1.out; have := HK2.out; have := HK3.out; omega⟩, ⟨by (try simp only [ja]); exact ur j0t⟩, ⟨by (with_reducible repeat first | apply zbn | apply zbd | apply zba); refine blk_far ?_ (by have h_ := Kd.R_ne j3.out j2.out (by decide); intro e_; exact h_ (by rw [e_]; rfl)) _; exact ub j2⟩, ⟨uB3 HB j0k.out j5.out jj.out⟩⟩
                    ·
                     rw [if_neg c37] at H; have jC := DL c37; try simp only [jC]
                     clear c37; have H' := Aside0.mk H; clear H; go_wp2; (try simp only [← ja]); go_roundg k3
                     case measure => have := HK1.out; have := HK2.out; have := HK3.out; omega
                     case rel => exact ⟨(j6), (wrap64 (j0 + 1)), ue, H', ⟨by have := HK1.out; have := HK2.out; have := HK3.out; omega⟩, ⟨by (try simp only [ja]); exact ur j3⟩, ⟨by exact ub j2⟩, ⟨uB2 HB j5.out jj.out⟩⟩
                   ·
                    rw [if_neg c30] at H; exact absurd H (by simp)
                  ·
                   rw [if_neg c29] at H; exact absurd H (by simp)
                 ·
                  rw [if_neg c28] at H; have j0m := DL c28; clear c28; have H' := Aside0.mk H; clear H; obtain ⟨j0M, j0N, j0O, j0P⟩ := bc2 j2; have jt : 0 ≤ (j0 : Int) := ua; have ju : j0 < (l0_1.length : Int) := ua; obtain ⟨jA, jX, jc, jd, je, jf, jg⟩ := at_T33 jL.out j0 jt ju
                  cases jX
                  replace jc := uc HB jc; replace jd := uc HB jd; replace je := uc HB je; replace jf := uc HB jf; replace jg := uc HB jg; replace jt := eq_true jt; replace ju := eq_true ju; try go_wp2_with (((with_reducible refine gate_dst (N := 9) rfl ?_); refine be (cs := #[.int .i64 0, .int .i64 0, .int .i64 0, .int .i64 0, .int .i64 0]) (t := 33) ?_; intro j1 hg w40 hbox hb; replace j3 := Aside0.mk (Kd.R_below (ur j3) hb); have j4 := Aside0.mk (hbox); have j0n := gz w hg (uB1 HB j5.out); have jj := gz w hg (uB1 HB j5.out); replace HB := Aside0.mk (below_step (uB1 HB j5.out) hb); have j7 := gl hg j2; have jh := gr hg j2; replace j2 := bb j2 hb; clear hb hbox hg; have j1z := jh.out; have j1A := j7.out; obtain ⟨j0Q, j0R, j0S, j0T, j0U, j0V, j0W, j0X, j0Y, j0Z⟩ := bc5 j4))
                  have n0_ : Aside0 (Kd.R (Kd.int .i64) 3 (((((w40.setCell ⟨j1, 0, none⟩ (.int .i64 ((rd_T33 l0_1 j0).f0))).setCell ⟨j1, 1, none⟩ (.int .i64 ((rd_T33 l0_1 j0).f1))).setCell ⟨j1, 2, none⟩ (.int .i64 ((rd_T33 l0_1 j0).f2))).setCell ⟨j1, 3, none⟩ (.int .i64 ((rd_T33 l0_1 j0).f3))).setCell ⟨j1, 4, none⟩ (.int .i64 ((rd_T33 l0_1 j0).f4))) w.heap.size (fun _ => True) (.slice (some ⟨j9, 0, none⟩) j6.length jy) j6) := ⟨by (with_reducible repeat (first | apply Kd.R_alloc | apply Kd.R_drewN | apply Kd.R_drew)); exact Kd.R_mono (rf5 j3 j4) (fun _ hk => trivial)⟩
                  have n1_ : Aside0 ((((((w40.setCell ⟨j1, 0, none⟩ (.int .i64 ((rd_T33 l0_1 j0).f0))).setCell ⟨j1, 1, none⟩ (.int .i64 ((rd_T33 l0_1 j0).f1))).setCell ⟨j1, 2, none⟩ (.int .i64 ((rd_T33 l0_1 j0).f2))).setCell ⟨j1, 3, none⟩ (.int .i64 ((rd_T33 l0_1 j0).f3))).setCell ⟨j1, 4, none⟩ (.int .i64 ((rd_T33 l0_1 j0).f4))).heap[jo]? = some (.cells #[.int .i64 a0_0, .slice (some jA) l0_1.length c0_1] 25 (0, 0))) := ⟨by (with_reducible repeat first | apply zbn | apply zbd | apply zba); refine fa5 ?_ j7; exact ub j2⟩
                  have n2_ : Aside0 ((((((w40.setCell ⟨j1, 0, none⟩ (.int .i64 ((rd_T33 l0_1 j0).f0))).setCell ⟨j1, 1, none⟩ (.int .i64 ((rd_T33 l0_1 j0).f1))).setCell ⟨j1, 2, none⟩ (.int .i64 ((rd_T33 l0_1 j0).f2))).setCell ⟨j1, 3, none⟩ (.int .i64 ((rd_T33 l0_1 j0).f3))).setCell ⟨j1, 4, none⟩ (.int .i64 ((rd_T33 l0_1 j0).f4))).heap[j1]? = some (.cells #[.int .i64 ((rd_T33 l0_1 j0).f0), .int .i64 ((rd_T33 l0_1 j0).f1), .int .i64 ((rd_T33 l0_1 j0).f2), .int .i64 ((rd_T33 l0_1 j0).f3), .int .i64 ((rd_T33 l0_1 j0).f4)] 33 (0, 0))) := ⟨by (with_reducible repeat first | apply zbn | apply zbd | apply zba); refine pu5 (.int .i64 0) (.int .i64 0) (.int .i64 0) (.int .i64 0) (.int .i64 0) ?_; exact ub j4⟩
                  have n3_ : Aside0 (Below w.heap.size w (((((w40.setCell ⟨j1, 0, none⟩ (.int .i64 ((rd_T33 l0_1 j0).f0))).setCell ⟨j1, 1, none⟩ (.int .i64 ((rd_T33 l0_1 j0).f1))).setCell ⟨j1, 2, none⟩ (.int .i64 ((rd_T33 l0_1 j0).f2))).setCell ⟨j1, 3, none⟩ (.int .i64 ((rd_T33 l0_1 j0).f3))).setCell ⟨j1, 4, none⟩ (.int .i64 ((rd_T33 l0_1 j0).f4)))) := ⟨uB2 HB j5.out jj.out⟩
                  (try clear j3); (try clear j2); (try clear j4); (try clear HB); generalize (((((w40.setCell ⟨j1, 0, none⟩ (.int .i64 ((rd_T33 l0_1 j0).f0))).setCell ⟨j1, 1, none⟩ (.int .i64 ((rd_T33 l0_1 j0).f1))).setCell ⟨j1, 2, none⟩ (.int .i64 ((rd_T33 l0_1 j0).f2))).setCell ⟨j1, 3, none⟩ (.int .i64 ((rd_T33 l0_1 j0).f3))).setCell ⟨j1, 4, none⟩ (.int .i64 ((rd_T33 l0_1 j0).f4))) = w43 at n0_ n1_ n2_ n3_ ⊢; have j3 := n0_; have j2 := n1_; have j4 := n2_; have HB := n3_; clear n0_ n1_ n2_ n3_; replace j3 := Aside0.mk (Kd.R_drew j3.out); replace j2 := Aside0.mk (blk_drew j2.out); replace j4 := Aside0.mk (blk_drew j4.out); replace HB := Aside0.mk (below_drew1 HB.out); have jv : 0 ≤ (((rd_T33 l0_1 j0).f0) : Int) := ua; have jw : ((rd_T33 l0_1 j0).f0) < (j6.length : Int) := ua; obtain ⟨jB, jY, j8⟩ := Kd.at_int (Kd.R_reads' j3.out).2.2 ((rd_T33 l0_1 j0).f0) jv jw; obtain rfl : (⟨j9, 0, none⟩ : Addr) = jB := (by injection jY)
                  (simp only [add_plain] at j8); replace jv := eq_true jv; replace jw := eq_true jw; refine start_ (n := 22) (S := fun w' => w'.cell? ⟨j1, 0, none⟩ = some (.int .i64 ((rd_T33 l0_1 j0).f0)) ∧ w'.cell? ⟨j1, 1, none⟩ = some (.int .i64 ((rd_T33 l0_1 j0).f1)) ∧ w'.cell? ⟨j1, 2, none⟩ = some (.int .i64 ((rd_T33 l0_1 j0).f2)) ∧ w'.cell? ⟨j1, 3, none⟩ = some (.int .i64 ((rd_T33 l0_1 j0).f3)) ∧ w'.cell? ⟨j1, 4, none⟩ = some (.int .i64 ((rd_T33 l0_1 j0).f4)) ∧ w'.cell? ⟨j9, (((rd_T33 l0_1 j0).f0)).toNat, none⟩ = some (.int .i64 (rd j6 ((rd_T33 l0_1 j0).f0)))) (ds := []) (zt 22 0) (by kernel_rfl) rfl (by kernel_rfl) (b5x j4 j8) (fun hHeld => ?_); refine with_tabW spec_l3All.tab14 spec_l3All.bits14 (fun HT_ HW_ => ?_); generalize w43.drew = w44 at j3 j2 j4 HB j8 hHeld ⊢; refine qz HT_ 0 ?_; refine qz HT_ 1 ?_; refine qt HT_ HW_ hHeld 2 ?_; refine qz HT_ 3 ?_; refine qt HT_ HW_ hHeld 4 ?_; refine qz HT_ 5 ?_; refine qz HT_ 6 ?_; refine qn HT_ 7 ?_; refine qn HT_ 8 ?_; refine qn HT_ 9 ?_; refine qn HT_ 10 ?_; refine qn HT_ 11 ?_; refine qn HT_ 12 ?_; refine qn HT_ 13 ?_; refine qn HT_ 14 ?_; refine qn HT_ 15 ?_; refine qn HT_ 16 ?_; refine qn HT_ 17 ?_; refine qn HT_ 18 ?_; refine qn HT_ 19 ?_; refine qn HT_ 20 ?_; refine qz HT_ 21 ?_; refine done_ (done_of HT_.out (by kernel_rfl)) ?_; try go_wp2
                  (try simp only [← ja]); go_roundg k3
                  case measure => have := HK1.out; have := HK2.out; have := HK3.out; omega
                  case rel => exact ⟨(j6), (wrap64 (j0 + 1)), ue, H', ⟨by have := HK1.out; have := HK2.out; have := HK3.out; omega⟩, ⟨by (try simp only [ja]); exact ur j3⟩, ⟨by exact ub j2⟩, ⟨uB2 HB j5.out jj.out⟩⟩
                ·
                 rw [if_neg c27] at H; exact absurd H (by simp)
               ·
                rw [if_neg c26] at H; exact absurd H (by simp)
              ·
               rw [if_neg c25] at H; exact absurd H (by simp)
             ·
              rw [if_neg c24] at H; have j0l := DL c24; clear c24; have H' := Aside0.mk H; clear H; obtain ⟨j10, j11, j12, j13⟩ := bc2 j2; go_wp2; (try simp only [← jx, ← ja]); go_roundg k3
              case measure => have := HK1.out; have := HK2.out; have := HK3.out; omega
              case rel => exact ⟨(j6), (wrap64 (js + 1)), ue, H', ⟨by have := HK1.out; have := HK2.out; have := HK3.out; omega⟩, ⟨by (try simp only [jx]); (try simp only [ja]); exact ur j3⟩, ⟨by exact ub j2⟩, ⟨uB1 HB j5.out⟩⟩
          ·
           rw [if_neg c22] at H; have jM := DL c22; clear c22; obtain rfl := Option.some.inj H; obtain ⟨j14, j15, j16, j17⟩ := bc2 j2; go_wp2; go_ret; exact ⟨_, by first | rfl | (simp [errW_none, errW_some] <;> rfl) | (simp [*, errW_none, errW_some] <;> rfl), by (with_reducible repeat (first | apply Kd.R_alloc | apply Kd.R_drewN | apply Kd.R_drew)); exact j3.out, uB1 HB j5.out⟩
       ·
        rw [if_neg c17] at H; exact absurd H (by simp)
      ·
       rw [if_neg c16] at H; exact absurd H (by simp)
  ·
   rw [if_neg c4] at H; exact absurd H (by simp)
 ·
  rw [if_neg c3] at H; exact absurd H (by simp)

end Go.Proofs.Ytblpdfgplifccaa.P
