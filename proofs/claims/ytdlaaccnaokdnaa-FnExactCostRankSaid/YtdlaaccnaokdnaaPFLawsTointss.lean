-- written for this claim by a program (wip/gen/myprint.py over the print tool). Not trusted: Lean checks it.
import Derived.Test.YtdlaaccnaokdnaaPx0
import Derived.Test.YtdlaaccnaokdnaaHUp
import Derived.Test.YtdlaaccnaokdnaaGLaws
namespace Go.Proofs.Ytdlaaccnaokdnaa.P
open Go.RowKit Go.Proofs.YtdlaaccnaokdnaaV.PrintWords Go.Proofs.YtdlaaccnaokdnaaV.PrintLast
set_option linter.unusedVariables false
set_option linter.unusedSimpArgs false

/-! ### laws_toIntSS: function 55 -/
def laws_toIntSS.l0 : Nat → List (List Int) → List (List Int) → Int → Option ((List (List Int)))
 | 0, _, _, _ => none
 | k + 1, x0, x3, x4 => if x4 < (x0.length : Int) then (if 0 ≤ x4 then ((laws_toIntS.f k (rd_L5 x0 x4)).bind fun t105 => (if x4 < (x3.length : Int) then (laws_toIntSS.l0 k x0 (x3.set (x4 : Int).toNat t105) (wrap64 (x4 + 1))) else (none))) else (none)) else (some x3)
def laws_toIntSS.f (k : Nat) (l0 : List (List Int)) : Option ((List (List Int))) := if 0 ≤ (l0.length : Int) then (if ((l0.length : Int) : Int).toNat ≤ 11728124029610 then (laws_toIntSS.l0 k l0 (List.replicate ((l0.length : Int) : Int).toNat []) 0) else (none)) else (none)
set_option maxHeartbeats 8000000 in
set_option maxRecDepth 100000 in
theorem laws_toIntSS.calls (k : Nat) (A0 : Option Addr) (c0 : Nat) (l0 : List (List Int)) (r : List (List Int)) (w : World) (hr0 : Kd.C (Kd.slice 3 (Kd.int .i64)) w A0 l0.length l0) (hc0 : l0.length ≤ c0) (h : laws_toIntSS.f k l0 = some r) :
  Calls Try.prog 55 #[.slice A0 l0.length c0] w fun e w' => ∃ v0_ : Value, e = .returned (v0_) ∧ Kd.S (Kd.slice 3 (Kd.int .i64)) 25 w' w.heap.size (fun _ => True) v0_ r ∧ Below w.heap.size w w' := by
 have HR0 := Aside0.mk hr0
 have HC0 := Aside0.mk hc0
 clear hr0 hc0
 have HB := Aside0.mk (Below.refl w.heap.size w)
 have H : (if 0 ≤ (l0.length : Int) then (if ((l0.length : Int) : Int).toNat ≤ 11728124029610 then (laws_toIntSS.l0 k l0 (List.replicate ((l0.length : Int) : Int).toNat []) 0) else (none)) else (none)) = some r := h
 clear h
 by_cases c2 : 0 ≤ (l0.length : Int)
 ·
  rw [if_pos c2] at H; have jz := eq_true c2; have jA := de c2; clear c2; by_cases c3 : ((l0.length : Int) : Int).toNat ≤ 11728124029610
  ·
   rw [if_pos c3] at H; have jB := eq_true c3; have jC := de c3; clear c3; obtain ⟨jq, j3⟩ : ∃ y_ : List (List Int), y_ = (List.replicate ((l0.length : Int) : Int).toNat []) := ⟨_, rfl⟩
   replace H : (laws_toIntSS.l0 k l0 jq 0) = some r := by first | (rw [j3]; with_reducible exact H) | (have H2_ := (Option.bind_some _ _).symm.trans H; rw [j3]; with_reducible exact H2_) | (have H2_ := (Option.bind_some _ _).symm.trans H; with_reducible exact H2_) | with_reducible exact H | (rw [j3]; exact H) | exact H
   have je := Aside0.mk j3; clear j3; have H' := Aside0.mk H; clear H; go_enter Try.func55, Try.ntmps55; go_wp2_with (first | ((with_reducible refine gate_dst (N := 7) rfl ?_); refine Kd.S_make (Kd.slice 3 (Kd.int .i64)) _ 25 rfl (N := 7) rfl 26 _ _ rfl (l0.length : Int) rfl rfl Try.underlying26 (.slice none 0 0) 24 info25 rfl (by decide) (by omega) [] (ok := fun _ => True) (okp := fun _ => True) ⟨_, rfl, Kd.R_nil _ _ _ _ _⟩ (fun _ hk => hk) trivial (ua) (Nat.le_trans (Nat.mul_le_mul_right _ (ua : (l0.length : Int).toNat ≤ 11728124029610)) (by omega)) (Below.refl _ _) (Nat.le_refl _) ?_; intro v102 w4 ho5 hb hg_ hnew_; clear hg_ hnew_; (first | rw [← je.out] at ho5 | (simp only [Int.reduceToNat] at ho5; rw [← je.out] at ho5)); have jr := Aside0.mk (Kd.S_lower ho5 (below_size (uB0 HB))); replace HB := Aside0.mk (below_step (uB0 HB) hb); clear hb ho5)); go_loopg [4] k (fun kq v4 w' => ∃ (j2 : List (List Int)) (j0 : Int), v4 = .int .i64 j0 ∧ Aside0 (laws_toIntSS.l0 kq l0 j2 j0 = some r) ∧ Aside0 (kq ≤ k) ∧ Aside0 (Kd.S (Kd.slice 3 (Kd.int .i64)) 25 w' w.heap.size (fun _ => True) v102 j2) ∧ Aside0 (Below w.heap.size w w'))
   case atStart => exact ⟨(jq), (0), ue, H', ⟨Nat.le_refl _⟩, ⟨by (with_reducible repeat (first | apply Kd.S_alloc | apply Kd.S_drewN | apply Kd.S_drew)); exact jr.out⟩, ⟨uB0 HB⟩⟩
   case round =>
    clear H'; try clear c2
    (try clear jz); (try clear jA); (try clear p2); (try clear c3); (try clear jB); (try clear jC); (try clear c5)
    obtain ⟨j2, j0, rfl, HA, HK1, j1, HB⟩ := hrel
    cases gk with
    | zero => exact absurd HA.out (by simp [laws_toIntSS.l0])
    | succ k1 =>
     have H := HA.out; clear HA; simp only [laws_toIntSS.l0] at H; by_cases c6 : j0 < (l0.length : Int)
     ·
      rw [if_pos c6] at H; have jD := dl c6; clear c6; by_cases c7 : 0 ≤ j0
      ·
       rw [if_pos c7] at H; have jQ := de c7; clear c7; replace H := Option.bind_eq_some_iff.mp H; obtain ⟨j4, A80, H⟩ := H; replace H : (if j0 < (j2.length : Int) then (laws_toIntSS.l0 k1 l0 (j2.set (j0 : Int).toNat j4) (wrap64 (j0 + 1))) else (none)) = some r := H; have A8 := Aside0.mk A80; clear A80; by_cases c9 : j0 < (j2.length : Int)
       ·
        rw [if_pos c9] at H; have jR := dl c9; clear c9; obtain ⟨jh, j5⟩ : ∃ y_ : List (List Int), y_ = (j2.set (j0 : Int).toNat j4) := ⟨_, rfl⟩
        replace H : (laws_toIntSS.l0 k1 l0 jh (wrap64 (j0 + 1))) = some r := by first | (rw [j5]; with_reducible exact H) | (have H2_ := (Option.bind_some _ _).symm.trans H; rw [j5]; with_reducible exact H2_) | (have H2_ := (Option.bind_some _ _).symm.trans H; with_reducible exact H2_) | with_reducible exact H | (rw [j5]; exact H) | exact H
        have js := Aside0.mk j5; clear j5; have H' := Aside0.mk H; clear H; have ji : 0 ≤ (j0 : Int) := ua; have jj : j0 < (l0.length : Int) := ua; obtain ⟨jO, jk, jl, jE, j6, j7, j8⟩ := at_L5 HR0.out j0 ji jj
        cases jE
        replace j6 := uc HB j6; have jb := Aside0.mk j8; have jc := Aside0.mk j7; clear j8 j7; replace ji := eq_true ji; replace jj := eq_true jj; go_wp2_with (first | ((with_reducible refine gate_callee (f := 30) rfl ?_); refine goesL_ (some 20) rfl rfl Try.func30 (by kernel_rfl) rfl #[.slice jk (rd_L5 l0 j0).length jl] rfl ul ?_; (with_reducible refine (laws_toIntS.calls k1 _ _ (rd_L5 l0 j0) j4 _ ?side1 ?side2 A8.out).mono ?_); (case side1 => exact uC jb HB); (case side2 => exact jc.out); rintro e w11 ⟨v106, rfl, ho0, hb⟩; refine ⟨_, rfl, ?_⟩; replace j1 := Aside0.mk (Kd.S_elder' (by (with_reducible repeat (first | apply Kd.S_alloc | apply Kd.S_drewN | apply Kd.S_drew)); exact j1.out) (Kd.R_base ho0) hb); have j9 := Aside0.mk (Kd.R_lower ho0 (below_size (uB0 HB))); replace HB := Aside0.mk (below_step (uB0 HB) hb); (try clear hb); (try clear hb2); (try clear hk); (try clear hi); (try clear ho0); obtain ⟨Ao_, co_, eo_⟩ := Kd.R_slice j9.out; subst eo_; have p10 : 0 ≤ (j0 : Int) := ua; have q10 : (j0 : Int) < ((j2.length : Int) : Int) := ua; obtain ⟨ja, jt, ju, jv, jF, jS, jw⟩ := Kd.S_form j1.out (by omega); (first | cases ju | (injection ju with ea_ en_ ec_; (first | subst ea_ | (injection ea_ with ea_; subst ea_)); subst ec_; clear en_)); have jG := Aside0.mk jv; have jT := Aside0.mk jw; clear jv jF jw; obtain ⟨_, jU, jx, jH, jf, hfr10, _, _⟩ := Kd.S_elem j1.out [] (j0 : Int) p10 q10; obtain ⟨jI, rfl, jJ⟩ := jH; have jm := jf 0 _ rfl; have jn := hfr10 0; (try simp only [show ((Kd.slice 3 (Kd.int .i64))).sz = 1 from rfl, Nat.mul_one, Nat.add_zero] at jm); (try simp only [show ((Kd.slice 3 (Kd.int .i64))).sz = 1 from rfl, Nat.mul_one, Nat.add_zero] at jn); clear jx jf hfr10; replace p10 := eq_true p10; replace q10 := eq_true q10; have n_ := Aside0.mk (Kd.S_mono (ok' := (fun k_ => some k_ ≠ (.slice Ao_ j4.length co_ : Value).ownBlock)) j1.out (fun k_ hk => hk.2)); clear j1; have j1 := n_; clear n_; have jK := Aside0.mk (show Kd.S (Kd.slice 3 (Kd.int .i64)) 25 w11 w.heap.size (fun k_ => ((fun _ => True)) k_ ∧ ¬ ((fun k_ => some k_ = (.slice Ao_ j4.length co_ : Value).ownBlock)) k_) (.slice (some ⟨ja, 0, none⟩) j2.length jt) j2 from (by (with_reducible repeat (first | apply Kd.S_alloc | apply Kd.S_drewN | apply Kd.S_drew)); exact Kd.S_mono j1.out (fun k_ hk => ⟨trivial, fun e_ => hk e_⟩))); obtain ⟨jP, jV, jy, jL, jg, hfr12, hoki12, hH12⟩ := Kd.S_elem jK.out [] (j0 : Int) (ua) (by have h_ : (j0 : Int) < ((j2.length : Int) : Int) := ua; first | exact h_ | (have e_ := (Kd.S_reads' j1.out).1; omega) | simpa using h_); obtain ⟨jM, rfl, jN⟩ := jL; have jd := Kd.S_seg hH12 (ua) (by have h_ : (j0 : Int) < ((j2.length : Int) : Int) := ua; first | exact h_ | (have e_ := (Kd.S_reads' j1.out).1; omega) | simpa using h_) (seg := [(.slice Ao_ j4.length co_ : Value)]) (j := 0) (show 1 ≤ 1 from by decide) (x' := j4) (Kd.M_row (Kd.R_mono (Kd.R_tight rfl (Kd.R_mono (ok' := fun k_ => ((fun _ => True)) k_ ∧ k_ ≠ ja) (Kd.R_apart' (j9.out) (Kd.S_typed j1.out) (by decide)) (fun k_ hk => ⟨trivial, fun e_ => (hk.2) (by rw [e_]; rfl)⟩))) (fun _ h_ => Or.inr (h_)))) (fun _ hk => hk) (fun k_ hk_ => ((Kd.R_mono (ok' := fun k_ => ((fun _ => True)) k_ ∧ k_ ≠ ja) (Kd.R_apart' (j9.out) (Kd.S_typed j1.out) (by decide)) (fun k_ hk => ⟨trivial, fun e_ => (hk.2) (by rw [e_]; rfl)⟩))).1 k_ hk_.symm); have jo := jg 0 _ rfl; (try simp only [show ((Kd.slice 3 (Kd.int .i64))).sz = 1 from rfl, Nat.mul_one, Nat.add_zero] at jo); have jp := hfr12 0; (try simp only [show ((Kd.slice 3 (Kd.int .i64))).sz = 1 from rfl, Nat.mul_one, Nat.add_zero] at jp); clear jy jg hfr12 hoki12 hH12; (try simp only [show ((Kd.slice 3 (Kd.int .i64))).sz = 1 from rfl, Nat.mul_one, Nat.add_zero] at jd)) | ((with_reducible refine gate_store (t := 25) (p := 21) rfl ?_); refine store_event (t := 25) (p := 21) (v := ?vo_w13) (w1 := (w11.setCell ⟨ja, (j0 : Int).toNat, none⟩ ((.slice Ao_ j4.length co_ : Value)))) ?hg ?ho ?hn ?hr ?_; (case ho => rfl); (case hg => rfl); (case hn => rfl); (case hr => first | (go_simp; done) | (go_simp; rfl)); intro w13 hw; have hg : w11.grownBy w13 (some ja) := (by rw [hw]; exact jd.2); have hp_ : Kd.S (Kd.slice 3 (Kd.int .i64)) 25 w13 w.heap.size (fun _ => True) (.slice (some ⟨ja, 0, none⟩) j2.length jt) jh := (by rw [hw, js.out]; exact jd.1); clear jd; replace j1 := Aside0.mk (hp_); replace HB := Aside0.mk ((by rw [hw]; exact below_set (HB.out) jG.out : Below w.heap.size w w13)); clear j9; clear hg hw hp_)); go_roundg k1
        case measure => have := HK1.out; omega
        case rel => exact ⟨(jh), (wrap64 (j0 + 1)), ue, H', ⟨by have := HK1.out; omega⟩, ⟨by (with_reducible repeat (first | apply Kd.S_alloc | apply Kd.S_drewN | apply Kd.S_drew)); exact j1.out⟩, ⟨uB0 HB⟩⟩
       ·
        rw [if_neg c9] at H; exact absurd H (by simp)
      ·
       rw [if_neg c7] at H; exact absurd H (by simp)
     ·
      rw [if_neg c6] at H; have jD := DL c6; clear c6; obtain rfl := Option.some.inj H; go_wp2; go_ret; exact ⟨_, by first | rfl | (simp [errW_none, errW_some] <;> rfl) | (simp [*, errW_none, errW_some] <;> rfl), by (with_reducible repeat (first | apply Kd.S_alloc | apply Kd.S_drewN | apply Kd.S_drew)); exact j1.out, uB0 HB⟩
  ·
   rw [if_neg c3] at H; exact absurd H (by simp)
 ·
  rw [if_neg c2] at H; exact absurd H (by simp)

end Go.Proofs.Ytdlaaccnaokdnaa.P
