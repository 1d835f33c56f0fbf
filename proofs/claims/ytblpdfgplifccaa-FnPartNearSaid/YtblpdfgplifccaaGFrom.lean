-- printed for this claim by a program
import Derived.Test.YtblpdfgplifccaaPx0
import Derived.Test.YtblpdfgplifccaaHUp
import Derived.Test.YtblpdfgplifccaaPFImplNetBack
import Derived.Test.YtblpdfgplifccaaGDist
import Derived.Test.YtblpdfgplifccaaPFImplNetToward
import Derived.Test.YtblpdfgplifccaaHNet
namespace Go.Proofs.Ytblpdfgplifccaa.P
open Go.RowKit Go.Proofs.YtblpdfgplifccaaV.PrintWords Go.Proofs.YtblpdfgplifccaaV.PrintLast
set_option linter.unusedVariables false
set_option linter.unusedSimpArgs false

/-! ### impl_Net_from: function 89 -/
def impl_Net_from.f (k : Nat) (a0_0 : Int) (l0_1 : List (S33)) (a1 : Int) : Option (List Int) := (impl_Net_back.f k a0_0 l0_1).bind fun bt102 => ((impl_Net_toward.f k bt102.1 bt102.2 a1).bind fun t106 => ((impl_costs.f k t106).bind fun t109 => (some t109)))
set_option maxHeartbeats 8000000 in
set_option maxRecDepth 100000 in
theorem impl_Net_from.calls (k : Nat) (a0_0 : Int) (A0_1 : Option Addr) (c0_1 : Nat) (l0_1 : List (S33)) (a1 : Int) (r : List Int) (w : World) (hr0_1 : Kd.C k33 w A0_1 l0_1.length l0_1) (hc0_1 : l0_1.length ≤ c0_1) (h : impl_Net_from.f k a0_0 l0_1 a1 = some r) :
  Calls Try.prog 89 #[.agg #[.int .i64 a0_0, .slice A0_1 l0_1.length c0_1], .int .i64 a1] w fun e w' => ∃ v0_ : Value, e = .returned (v0_) ∧ Kd.R (Kd.int .i64) 3 w' w.heap.size (fun _ => True) v0_ r ∧ Below w.heap.size w w' := by
 have hu25 := Try.underlying25
 have j8 := Aside0.mk hr0_1
 have j9 := Aside0.mk hc0_1
 clear hr0_1 hc0_1
 have HB := Aside0.mk (Below.refl w.heap.size w)
 have H : ((impl_Net_back.f k a0_0 l0_1).bind fun bt102 => ((impl_Net_toward.f k bt102.1 bt102.2 a1).bind fun j3 => ((impl_costs.f k j3).bind fun j4 => (some j4)))) = some r := h
 clear h
 replace H := Option.bind_eq_some_iff.mp H
 obtain ⟨⟨j6, j7⟩, A30, H⟩ := H
 replace H : ((impl_Net_toward.f k j6 j7 a1).bind fun j3 => ((impl_costs.f k j3).bind fun j4 => (some j4))) = some r := H
 have A3 := Aside0.mk A30
 clear A30
 replace H := Option.bind_eq_some_iff.mp H
 obtain ⟨j3, A40, H⟩ := H
 replace H : ((impl_costs.f k j3).bind fun j4 => (some j4)) = some r := H
 have A4 := Aside0.mk A40
 clear A40
 replace H := Option.bind_eq_some_iff.mp H
 obtain ⟨j4, A50, H⟩ := H
 replace H : (some j4) = some r := H
 have A5 := Aside0.mk A50
 clear A50
 obtain rfl := Option.some.inj H
 go_enter Try.func89, Try.ntmps89
 go_wp2_with (first | ((with_reducible refine gate_dst (N := 2) rfl ?_); refine be (cs := #[.int .i64 a0_0, .slice A0_1 l0_1.length c0_1]) (t := 25) ?_; intro ji hg w6 hbox hb; have j0 := Aside0.mk (hbox); have jj := gz w hg (uB0 HB); have j1 := gz w hg (uB0 HB); replace HB := Aside0.mk (below_step (uB0 HB) hb); clear hb hbox hg; obtain ⟨jb, jc, jd, je⟩ := bc2 j0) | ((with_reducible refine gate_callee (f := 71) rfl ?_); refine goesL_ (some 6) rfl rfl Try.func71 (by kernel_rfl) rfl #[.agg #[.int .i64 a0_0, .slice A0_1 l0_1.length c0_1]] rfl ul ?_; (with_reducible refine (impl_Net_back.calls k a0_0 _ _ l0_1 j6 j7 _ ?side1 ?side2 A3.out).mono ?_); (case side1 => exact uC j8 HB); (case side2 => exact j9.out); rintro e w8 ⟨v104, rfl, ho0, hb⟩; refine ⟨_, rfl, ?_⟩; have j2 := Aside0.mk (Kd.R_lower ho0 (below_size (uB1 HB j1.out))); replace j0 := bb j0 hb; replace HB := Aside0.mk (below_step (uB1 HB j1.out) hb); (try clear hb); (try clear hb2); (try clear hk); (try clear hi); (try clear ho0); obtain ⟨Ao9, co9, eo9⟩ := Kd.R_slice j2.out; subst eo9) | ((with_reducible refine gate_callee (f := 113) rfl ?_); refine goesL_ (some 8) rfl rfl Try.func113 (by kernel_rfl) rfl #[.agg #[.int .i64 j6, .slice Ao9 j7.length co9], .int .i64 a1] rfl ul ?_; (with_reducible refine (impl_Net_toward.calls k j6 _ _ j7 a1 j3 _ ?side1 ?side2 A4.out).mono ?_); (case side1 => exact uD (Kd.R_reads' j2.out).2.2); (case side2 => exact (Kd.R_reads' j2.out).2.1); rintro e w10 ⟨v107, rfl, ho0, hb⟩; refine ⟨_, rfl, ?_⟩; replace j2 := Aside0.mk (Kd.R_below (ur j2) hb); have j5 := Aside0.mk (Kd.R_lower ho0 (below_size (uB1 HB j1.out))); replace j0 := bb j0 hb; replace HB := Aside0.mk (below_step (uB1 HB j1.out) hb); (try clear hb); (try clear hb2); (try clear hk); (try clear hi); (try clear ho0); obtain ⟨jf, jg, jh⟩ := Kd.R_slice j5.out; subst jh) | ((with_reducible refine gate_callee (f := 112) rfl ?_); refine goesL_ (some 9) rfl rfl Try.func112 (by kernel_rfl) rfl #[.slice jf j3.length jg] rfl ul ?_; (with_reducible refine (impl_costs.calls k _ _ j3 j4 _ ?side1 ?side2 A5.out).mono ?_); (case side1 => exact uD (Kd.R_reads' j5.out).2.2); (case side2 => exact (Kd.R_reads' j5.out).2.1); rintro e w12 ⟨v110, rfl, ho0, hb⟩; refine ⟨_, rfl, ?_⟩; replace j2 := Aside0.mk (Kd.R_below (ur j2) hb); replace j5 := Aside0.mk (Kd.R_below (ur j5) hb); have ja := Aside0.mk (Kd.R_lower ho0 (below_size (uB1 HB j1.out))); replace j0 := bb j0 hb; replace HB := Aside0.mk (below_step (uB1 HB j1.out) hb); (try clear hb); (try clear hb2); (try clear hk); (try clear hi); (try clear ho0)))
 go_ret
 exact ⟨_, by first | rfl | (simp [errW_none, errW_some] <;> rfl) | (simp [*, errW_none, errW_some] <;> rfl), by (with_reducible repeat (first | apply Kd.R_alloc | apply Kd.R_drewN | apply Kd.R_drew)); exact ja.out, uB1 HB j1.out⟩

end Go.Proofs.Ytblpdfgplifccaa.P
namespace Go.Proofs.Ytblpdfgplifccaa.P
open Go.RowKit Go.Proofs.YtblpdfgplifccaaV.PrintWords Go.Proofs.YtblpdfgplifccaaV.PrintLast
set_option linter.unusedVariables false
set_option linter.unusedSimpArgs false

/-! ### impl_Net_table: function 81 -/
def impl_Net_table.l0 : Nat → List (List Int) → Int → Int → Int → List (S33) → Option ((List (List Int)))
 | 0, _, _, _, _, _ => none
 | k + 1, x3, x9, x10, x102000, x102001 => if x10 < x9 then ((impl_Net_from.f k x102000 x102001 x10).bind fun t105 => (if x3.length < 5864062014805 then (impl_Net_table.l0 k (x3 ++ [t105]) x9 (wrap64 (x10 + 1)) x102000 x102001) else (none))) else (some x3)
def impl_Net_table.f (k : Nat) (a0_0 : Int) (l0_1 : List (S33)) : Option ((List (List Int))) := if 0 ≤ a0_0 then (if (a0_0 : Int).toNat ≤ 11728124029610 then (impl_Net_table.l0 k (([] : List (List Int))) a0_0 0 a0_0 l0_1) else (none)) else (none)
set_option maxHeartbeats 8000000 in
set_option maxRecDepth 100000 in
theorem impl_Net_table.calls (k : Nat) (a0_0 : Int) (A0_1 : Option Addr) (c0_1 : Nat) (l0_1 : List (S33)) (r : List (List Int)) (w : World) (hr0_1 : Kd.C k33 w A0_1 l0_1.length l0_1) (hc0_1 : l0_1.length ≤ c0_1) (h : impl_Net_table.f k a0_0 l0_1 = some r) :
  Calls Try.prog 81 #[.agg #[.int .i64 a0_0, .slice A0_1 l0_1.length c0_1]] w fun e w' => ∃ v0_ : Value, e = .returned (v0_) ∧ Kd.S (Kd.slice 3 (Kd.int .i64)) 26 w' w.heap.size (fun _ => True) v0_ r ∧ Below w.heap.size w w' := by
 have hu25 := Try.underlying25
 have jj := Aside0.mk hr0_1
 have jk := Aside0.mk hc0_1
 clear hr0_1 hc0_1
 have HB := Aside0.mk (Below.refl w.heap.size w)
 have H : (if 0 ≤ a0_0 then (if (a0_0 : Int).toNat ≤ 11728124029610 then (impl_Net_table.l0 k (([] : List (List Int))) a0_0 0 a0_0 l0_1) else (none)) else (none)) = some r := h
 clear h
 by_cases c2 : 0 ≤ a0_0
 ·
  rw [if_pos c2] at H; have jy := eq_true c2; have jz := de c2; clear c2; by_cases c3 : (a0_0 : Int).toNat ≤ 11728124029610
  ·
   rw [if_pos c3] at H; have jA := eq_true c3; have jB := de c3; clear c3; obtain ⟨jl, j3⟩ : ∃ y_ : List (List Int), y_ = (([] : List (List Int))) := ⟨_, rfl⟩
   replace H : (impl_Net_table.l0 k jl a0_0 0 a0_0 l0_1) = some r := by first | (rw [j3]; with_reducible exact H) | (have H2_ := (Option.bind_some _ _).symm.trans H; rw [j3]; with_reducible exact H2_) | (have H2_ := (Option.bind_some _ _).symm.trans H; with_reducible exact H2_) | with_reducible exact H | (rw [j3]; exact H) | exact H
   have j9 := Aside0.mk j3; clear j3; have H' := Aside0.mk H; clear H; go_enter Try.func81, Try.ntmps81; go_wp2_with (first | ((with_reducible refine gate_dst (N := 1) rfl ?_); refine be (cs := #[.int .i64 a0_0, .slice A0_1 l0_1.length c0_1]) (t := 25) ?_; intro ja hg w4 hbox hb; have j0 := Aside0.mk (hbox); have jE := gz w hg (uB0 HB); have j1 := gz w hg (uB0 HB); replace HB := Aside0.mk (below_step (uB0 HB) hb); clear hb hbox hg; obtain ⟨jb, jc, jd, je⟩ := bc2 j0) | ((with_reducible refine gate_dst (N := 7) rfl ?_); refine Kd.S_room (Kd.slice 3 (Kd.int .i64)) _ 26 rfl (N := 7) rfl 53 _ _ rfl a0_0 rfl rfl Try.underlying53 (.slice none 0 0) 24 info26 rfl (by omega) (ok := fun _ => True) trivial (ua) (Nat.le_trans (Nat.mul_le_mul_right _ (ua : a0_0.toNat ≤ 11728124029610)) (by omega)) (Below.refl _ _) (Nat.le_refl _) ?_; intro v103 w6 ho7 hb hg_ hnew_; clear hg_ hnew_; (first | rw [← j9.out] at ho7 | (simp only [Int.reduceToNat] at ho7; rw [← j9.out] at ho7)); have jm := Aside0.mk (Kd.S_lower ho7 (below_size (uB1 HB j1.out))); replace j0 := bb j0 hb; replace HB := Aside0.mk (below_step (uB1 HB j1.out) hb); clear hb ho7; obtain ⟨jf, jg, jh, ji⟩ := bc2 j0)); go_loopg [3, 10] k (fun kq v3 v10 w' => ∃ (j4 : List (List Int)) (j2 : Int), v10 = .int .i64 j2 ∧ Aside0 (impl_Net_table.l0 kq j4 a0_0 j2 a0_0 l0_1 = some r) ∧ Aside0 (kq ≤ k) ∧ Aside0 (Kd.S (Kd.slice 3 (Kd.int .i64)) 26 w' w.heap.size (fun _ => True) v3 j4) ∧ Aside0 (w'.heap[ja]? = some (.cells #[.int .i64 a0_0, (.slice A0_1 l0_1.length c0_1)] 25 (0, 0))) ∧ Aside0 (Below w.heap.size w w'))
   case atStart => exact ⟨(jl), (0), ue, H', ⟨Nat.le_refl _⟩, ⟨by (with_reducible repeat (first | apply Kd.S_alloc | apply Kd.S_drewN | apply Kd.S_drew)); exact jm.out⟩, ⟨ub j0⟩, ⟨uB1 HB j1.out⟩⟩
   case round =>
    clear H'; try clear c2
    (try clear jy); (try clear jz); (try clear p2); (try clear c3); (try clear jA); (try clear jB); (try clear c8); (try clear jb jc); (try clear jf jg); (try clear jd je); (try clear jh ji)
    obtain ⟨j4, j2, rfl, HA, HK1, j5, j0, HB⟩ := hrel
    cases gk with
    | zero => exact absurd HA.out (by simp [impl_Net_table.l0])
    | succ k1 =>
     have H := HA.out; clear HA; simp only [impl_Net_table.l0] at H; by_cases c9 : j2 < a0_0
     ·
      rw [if_pos c9] at H; have jC := dl c9; clear c9; replace H := Option.bind_eq_some_iff.mp H; obtain ⟨j8, jn, H⟩ := H; replace H : (if j4.length < 5864062014805 then (impl_Net_table.l0 k1 (j4 ++ [j8]) a0_0 (wrap64 (j2 + 1)) a0_0 l0_1) else (none)) = some r := H; have A10 := Aside0.mk jn; clear jn; by_cases c11 : j4.length < 5864062014805
      ·
       rw [if_pos c11] at H; have jo := Aside0.mk c11; clear c11; obtain ⟨jp, j6⟩ : ∃ y_ : List (List Int), y_ = (j4 ++ [j8]) := ⟨_, rfl⟩
       replace H : (impl_Net_table.l0 k1 jp a0_0 (wrap64 (j2 + 1)) a0_0 l0_1) = some r := by first | (rw [j6]; with_reducible exact H) | (have H2_ := (Option.bind_some _ _).symm.trans H; rw [j6]; with_reducible exact H2_) | (have H2_ := (Option.bind_some _ _).symm.trans H; with_reducible exact H2_) | with_reducible exact H | (rw [j6]; exact H) | exact H
       have jq := Aside0.mk j6; clear j6; have H' := Aside0.mk H; clear H; obtain ⟨ju, jv, jw, jx⟩ := bc2 j0; go_wp2_with (first | ((with_reducible refine gate_callee (f := 89) rfl ?_); refine goesL_ (some 16) rfl rfl Try.func89 (by kernel_rfl) rfl #[.agg #[.int .i64 a0_0, .slice A0_1 l0_1.length c0_1], .int .i64 j2] rfl ul ?_; (with_reducible refine (impl_Net_from.calls k1 a0_0 _ _ l0_1 j2 j8 _ ?side1 ?side2 A10.out).mono ?_); (case side1 => exact uC jj HB); (case side2 => exact jk.out); rintro e w13 ⟨v106, rfl, ho0, hb⟩; refine ⟨_, rfl, ?_⟩; replace j5 := Aside0.mk (Kd.S_elder' (by (with_reducible repeat (first | apply Kd.S_alloc | apply Kd.S_drewN | apply Kd.S_drew)); exact j5.out) (Kd.R_base ho0) hb); have j7 := Aside0.mk (Kd.R_lower ho0 (below_size (uB1 HB j1.out))); replace j0 := bb j0 hb; replace HB := Aside0.mk (below_step (uB1 HB j1.out) hb); (try clear hb); (try clear hb2); (try clear hk); (try clear hi); (try clear ho0); obtain ⟨jr, js, jD⟩ := Kd.R_slice j7.out; subst jD) | ((with_reducible refine gate_builtin (b := .append) (xs := #[.tmp 13, .tmp 17]) rfl ?_); at_builtin; refine Kd.S_append (Kd.slice 3 (Kd.int .i64)) (w0 := w) w.heap.size rfl (.tmp 13) (.tmp 17) 53 26 (.slice none 0 0) 24 rfl Try.underlying53 info26 rfl (by decide) (by omega) u3 j4 j8 [.slice jr j8.length js] (fun _ => True) (fun k_ => some k_ = (.slice jr j8.length js : Value).ownBlock) rfl rfl ?aP (fun k_ hk_ => ((Kd.R_mono (ok' := fun k_ => ((fun _ => True)) k_ ∧ some k_ ≠ (u3 : Value).ownBlock) (Kd.R_apart' (j7.out) (Kd.S_typed j5.out) (by decide)) (fun k_ hk => ⟨trivial, hk.2⟩))).1 k_ hk_.symm) ?aF ?aO ?aB ?aS ?aL ?_; (case aP => exact Kd.M_row (Kd.R_mono (Kd.R_tight rfl (Kd.R_mono (ok' := fun k_ => ((fun _ => True)) k_ ∧ some k_ ≠ (u3 : Value).ownBlock) (Kd.R_apart' (j7.out) (Kd.S_typed j5.out) (by decide)) (fun k_ hk => ⟨trivial, hk.2⟩))) (fun _ h_ => h_))); (case aB => exact (uB1 HB j1.out)); (case aF => exact (fun _ _ => trivial)); (case aO => exact (by (with_reducible repeat (first | apply Kd.S_alloc | apply Kd.S_drewN | apply Kd.S_drew)); exact Kd.S_mono j5.out (fun k_ hk => ⟨trivial, fun e_ => hk.2 e_⟩))); (case aS => exact (below_size (uB1 HB j1.out))); (case aL => have := jo.out; omega); intro v109 w14 ho hb hg hat; rw [← jq.out] at ho; replace j0 := Aside0.mk (blk_grown (g := ja) (o := .cells #[.int .i64 a0_0, .slice A0_1 l0_1.length c0_1] 25 (0, 0)) (ub j0) hg (Kd.S_ne j5.out j0.out (by decide))); replace HB := Aside0.mk (hb); have jt := Aside0.mk (ho); clear j5; clear j7; clear ho hb hg hat)); go_roundg k1
       case measure => have := HK1.out; omega
       case rel => exact ⟨(jp), (wrap64 (j2 + 1)), ue, H', ⟨by have := HK1.out; omega⟩, ⟨by (with_reducible repeat (first | apply Kd.S_alloc | apply Kd.S_drewN | apply Kd.S_drew)); exact jt.out⟩, ⟨ub j0⟩, ⟨uB1 HB j1.out⟩⟩
      ·
       rw [if_neg c11] at H; exact absurd H (by simp)
     ·
      rw [if_neg c9] at H; have jC := DL c9; clear c9; obtain rfl := Option.some.inj H; go_wp2; go_ret; exact ⟨_, by first | rfl | (simp [errW_none, errW_some] <;> rfl) | (simp [*, errW_none, errW_some] <;> rfl), by (with_reducible repeat (first | apply Kd.S_alloc | apply Kd.S_drewN | apply Kd.S_drew)); exact j5.out, uB1 HB j1.out⟩
  ·
   rw [if_neg c3] at H; exact absurd H (by simp)
 ·
  rw [if_neg c2] at H; exact absurd H (by simp)

end Go.Proofs.Ytblpdfgplifccaa.P
namespace Go.Proofs.Ytblpdfgplifccaa.P
open Go.RowKit Go.Proofs.YtblpdfgplifccaaV.PrintWords Go.Proofs.YtblpdfgplifccaaV.PrintLast
set_option linter.unusedVariables false
set_option linter.unusedSimpArgs false

/-! ### impl_nodesIn: function 92 -/
def impl_nodesIn.f (a0_0 : Int) (l0_1 : List (S33)) (l1 : List Int) : Option (Bool) := (impl_NetOk.f a0_0 l0_1).bind fun t102 => (if t102 = true then ((impl_Net_has.f a0_0 l0_1 l1).bind fun t103 => (some t103)) else (some false))
set_option maxHeartbeats 8000000 in
set_option maxRecDepth 100000 in
theorem impl_nodesIn.calls (a0_0 : Int) (A0_1 : Option Addr) (c0_1 : Nat) (l0_1 : List (S33)) (A1 : Option Addr) (c1 : Nat) (l1 : List Int) (r : Bool) (w : World) (hr0_1 : Kd.C k33 w A0_1 l0_1.length l0_1) (hc0_1 : l0_1.length ≤ c0_1) (hr1 : Kd.C (Kd.int .i64) w A1 l1.length l1) (hc1 : l1.length ≤ c1) (h : impl_nodesIn.f a0_0 l0_1 l1 = some r) :
  Calls Try.prog 92 #[.agg #[.int .i64 a0_0, .slice A0_1 l0_1.length c0_1], .slice A1 l1.length c1] w fun e w' => e = .returned (.bool r) ∧ Below w.heap.size w w' := by
 have hu25 := Try.underlying25
 have j3 := Aside0.mk hr0_1
 have j4 := Aside0.mk hc0_1
 clear hr0_1 hc0_1
 have HR1 := Aside0.mk hr1
 have HC1 := Aside0.mk hc1
 clear hr1 hc1
 have HB := Aside0.mk (Below.refl w.heap.size w)
 have H : ((impl_NetOk.f a0_0 l0_1).bind fun j5 => (if j5 = true then ((impl_Net_has.f a0_0 l0_1 l1).bind fun j2 => (some j2)) else (some false))) = some r := h
 clear h
 replace H := Option.bind_eq_some_iff.mp H
 obtain ⟨j5, A30, H⟩ := H
 replace H : (if j5 = true then ((impl_Net_has.f a0_0 l0_1 l1).bind fun j2 => (some j2)) else (some false)) = some r := H
 have A3 := Aside0.mk A30
 clear A30
 by_cases c4 : j5 = true
 ·
  subst c4; rw [if_pos rfl] at H; replace H := Option.bind_eq_some_iff.mp H; obtain ⟨j2, A50, H⟩ := H; replace H : (some j2) = some r := H; have A5 := Aside0.mk A50; clear A50; obtain rfl := Option.some.inj H; go_enter Try.func92, Try.ntmps92; go_wp2_with (first | ((with_reducible refine gate_dst (N := 2) rfl ?_); refine be (cs := #[.int .i64 a0_0, .slice A0_1 l0_1.length c0_1]) (t := 25) ?_; intro j6 hg w6 hbox hb; have j0 := Aside0.mk (hbox); have j7 := gz w hg (uB0 HB); have j1 := gz w hg (uB0 HB); replace HB := Aside0.mk (below_step (uB0 HB) hb); clear hb hbox hg; obtain ⟨jc, jd, je, jf⟩ := bc2 j0) | ((with_reducible refine gate_callee (f := 20) rfl ?_); refine goesL_ (some 6) rfl rfl Try.func20 (by kernel_rfl) rfl #[.agg #[.int .i64 a0_0, .slice A0_1 l0_1.length c0_1]] rfl ul ?_; (with_reducible refine (impl_NetOk.calls a0_0 _ _ l0_1 true _ ?side1 ?side2 A3.out).mono ?_); (case side1 => exact uC j3 HB); (case side2 => exact j4.out); rintro e w8 ⟨rfl, hb⟩; refine ⟨_, rfl, ?_⟩; replace j0 := bb j0 hb; replace HB := Aside0.mk (below_step (uB1 HB j1.out) hb); (try clear hb); (try clear hb2); (try clear hk); (try clear hi); obtain ⟨jg, jh, ji, jj⟩ := bc2 j0) | (go_at_call 66; (with_reducible refine (impl_Net_has.calls a0_0 _ _ l0_1 _ _ l1 j2 _ ?side1 ?side2 ?side3 ?side4 A5.out).mono ?_); (case side1 => exact uC j3 HB); (case side2 => exact j4.out); (case side3 => exact uC HR1 HB); (case side4 => exact HC1.out); rintro e w10 ⟨rfl, hb⟩; replace j0 := bb j0 hb; replace HB := Aside0.mk (below_step (uB1 HB j1.out) hb); (try clear hb); (try clear hb2); (try clear hk); (try clear hi))); go_ret; exact ⟨ux, uB1 HB j1.out⟩
 ·
  replace c4 := Bool.eq_false_iff.mpr c4; subst c4; rw [if_neg (show ¬ (false = true) by decide)] at H; obtain rfl := Option.some.inj H; go_enter Try.func92, Try.ntmps92; go_wp2_with (first | ((with_reducible refine gate_dst (N := 2) rfl ?_); refine be (cs := #[.int .i64 a0_0, .slice A0_1 l0_1.length c0_1]) (t := 25) ?_; intro j6 hg w11 hbox hb; have j0 := Aside0.mk (hbox); have j7 := gz w hg (uB0 HB); have j1 := gz w hg (uB0 HB); replace HB := Aside0.mk (below_step (uB0 HB) hb); clear hb hbox hg; obtain ⟨j8, j9, ja, jb⟩ := bc2 j0) | ((with_reducible refine gate_callee (f := 20) rfl ?_); refine goesL_ (some 6) rfl rfl Try.func20 (by kernel_rfl) rfl #[.agg #[.int .i64 a0_0, .slice A0_1 l0_1.length c0_1]] rfl ul ?_; (with_reducible refine (impl_NetOk.calls a0_0 _ _ l0_1 false _ ?side1 ?side2 A3.out).mono ?_); (case side1 => exact uC j3 HB); (case side2 => exact j4.out); rintro e w13 ⟨rfl, hb⟩; refine ⟨_, rfl, ?_⟩; replace j0 := bb j0 hb; replace HB := Aside0.mk (below_step (uB1 HB j1.out) hb); (try clear hb); (try clear hb2); (try clear hk); (try clear hi))); go_ret; exact ⟨ux, uB1 HB j1.out⟩

end Go.Proofs.Ytblpdfgplifccaa.P
namespace Go.Proofs.Ytblpdfgplifccaa.P
open Go.RowKit Go.Proofs.YtblpdfgplifccaaV.PrintWords Go.Proofs.YtblpdfgplifccaaV.PrintLast
set_option linter.unusedVariables false
set_option linter.unusedSimpArgs false

/-! ### impl_listOk: function 88 -/
def impl_listOk.f (a0_0 : Int) (l0_1 : List (S33)) (l1 : List Int) : Option (Bool) := if (l1.length : Int) ≤ 8 then ((impl_nodesIn.f a0_0 l0_1 l1).bind fun t102 => (some t102)) else (some false)
set_option maxHeartbeats 8000000 in
set_option maxRecDepth 100000 in
theorem impl_listOk.calls (a0_0 : Int) (A0_1 : Option Addr) (c0_1 : Nat) (l0_1 : List (S33)) (A1 : Option Addr) (c1 : Nat) (l1 : List Int) (r : Bool) (w : World) (hr0_1 : Kd.C k33 w A0_1 l0_1.length l0_1) (hc0_1 : l0_1.length ≤ c0_1) (hr1 : Kd.C (Kd.int .i64) w A1 l1.length l1) (hc1 : l1.length ≤ c1) (h : impl_listOk.f a0_0 l0_1 l1 = some r) :
  Calls Try.prog 88 #[.agg #[.int .i64 a0_0, .slice A0_1 l0_1.length c0_1], .slice A1 l1.length c1] w fun e w' => e = .returned (.bool r) ∧ Below w.heap.size w w' := by
 have hu25 := Try.underlying25
 have HR0_1 := Aside0.mk hr0_1
 have HC0_1 := Aside0.mk hc0_1
 clear hr0_1 hc0_1
 have HR1 := Aside0.mk hr1
 have HC1 := Aside0.mk hc1
 clear hr1 hc1
 have HB := Aside0.mk (Below.refl w.heap.size w)
 have H : (if (l1.length : Int) ≤ 8 then ((impl_nodesIn.f a0_0 l0_1 l1).bind fun t102 => (some t102)) else (some false)) = some r := h
 clear h
 by_cases c3 : (l1.length : Int) ≤ 8
 ·
  rw [if_pos c3] at H; have c3b0 := de c3; have c3b1 : decide (l1.length ≤ 8) = true := decide_eq_true (by omega); clear c3; replace H := Option.bind_eq_some_iff.mp H; obtain ⟨t102, A40, H⟩ := H; replace H : (some t102) = some r := H; have A4 := Aside0.mk A40; clear A40; obtain rfl := Option.some.inj H; go_enter Try.func88, Try.ntmps88; go_wp2_with (first | ((with_reducible refine gate_dst (N := 2) rfl ?_); refine be (cs := #[.int .i64 a0_0, .slice A0_1 l0_1.length c0_1]) (t := 25) ?_; intro gb101 hg w5 hbox hb; have BK101 := Aside0.mk (hbox); have GW101 := gz w hg (uB0 HB); have GE101 := gz w hg (uB0 HB); replace HB := Aside0.mk (below_step (uB0 HB) hb); clear hb hbox hg; obtain ⟨hcz6_0, hcz6_1, hfz6_0, hfz6_1⟩ := bc2 BK101) | (go_at_call 92; (with_reducible refine (impl_nodesIn.calls a0_0 _ _ l0_1 _ _ l1 t102 _ ?side1 ?side2 ?side3 ?side4 A4.out).mono ?_); (case side1 => exact uC HR0_1 HB); (case side2 => exact HC0_1.out); (case side3 => exact uC HR1 HB); (case side4 => exact HC1.out); rintro e w7 ⟨rfl, hb⟩; replace BK101 := bb BK101 hb; replace HB := Aside0.mk (below_step (uB1 HB GE101.out) hb); (try clear hb); (try clear hb2); (try clear hk); (try clear hi))); go_ret; exact ⟨ux, uB1 HB GE101.out⟩
 ·
  rw [if_neg c3] at H; have c3b0 := DE c3; have c3b1 : decide (l1.length ≤ 8) = false := decide_eq_false (by omega); clear c3; obtain rfl := Option.some.inj H; go_enter Try.func88, Try.ntmps88; go_wp2_with (first | ((with_reducible refine gate_dst (N := 2) rfl ?_); refine be (cs := #[.int .i64 a0_0, .slice A0_1 l0_1.length c0_1]) (t := 25) ?_; intro gb101 hg w8 hbox hb; have BK101 := Aside0.mk (hbox); have GW101 := gz w hg (uB0 HB); have GE101 := gz w hg (uB0 HB); replace HB := Aside0.mk (below_step (uB0 HB) hb); clear hb hbox hg)); go_ret; exact ⟨ux, uB1 HB GE101.out⟩

end Go.Proofs.Ytblpdfgplifccaa.P
namespace Go.Proofs.Ytblpdfgplifccaa.P
open Go.RowKit Go.Proofs.YtblpdfgplifccaaV.PrintWords Go.Proofs.YtblpdfgplifccaaV.PrintLast
set_option linter.unusedVariables false
set_option linter.unusedSimpArgs false

/-! ### impl_NearAll: function 51 -/
def impl_NearAll.f (k : Nat) (a0_0 : Int) (l0_1 : List (S33)) (a1 : Int) : Option (List Int) := (impl_nodesIn.f a0_0 l0_1 (([a1] : List Int))).bind fun t105 => (if t105 = true then ((impl_Net_from.f k a0_0 l0_1 a1).bind fun t106 => (some t106)) else (some ([] : List Int)))
set_option maxHeartbeats 8000000 in
set_option maxRecDepth 100000 in
theorem impl_NearAll.calls (k : Nat) (a0_0 : Int) (A0_1 : Option Addr) (c0_1 : Nat) (l0_1 : List (S33)) (a1 : Int) (r : List Int) (w : World) (hr0_1 : Kd.C k33 w A0_1 l0_1.length l0_1) (hc0_1 : l0_1.length ≤ c0_1) (h : impl_NearAll.f k a0_0 l0_1 a1 = some r) :
  Calls Try.prog 51 #[.agg #[.int .i64 a0_0, .slice A0_1 l0_1.length c0_1], .int .i64 a1] w fun e w' => ∃ v0_ : Value, e = .returned (v0_) ∧ Kd.R (Kd.int .i64) 3 w' w.heap.size (fun _ => True) v0_ r ∧ Below w.heap.size w w' := by
 have hu25 := Try.underlying25
 have j7 := Aside0.mk hr0_1
 have j8 := Aside0.mk hc0_1
 clear hr0_1 hc0_1
 have HB := Aside0.mk (Below.refl w.heap.size w)
 have H : ((impl_nodesIn.f a0_0 l0_1 (([a1] : List Int))).bind fun j6 => (if j6 = true then ((impl_Net_from.f k a0_0 l0_1 a1).bind fun j3 => (some j3)) else (some ([] : List Int)))) = some r := h
 clear h
 obtain ⟨j9, j4⟩ : ∃ y_ : List Int, y_ = (([a1] : List Int)) := ⟨_, rfl⟩
 replace H : ((impl_nodesIn.f a0_0 l0_1 j9).bind fun j6 => (if j6 = true then ((impl_Net_from.f k a0_0 l0_1 a1).bind fun j3 => (some j3)) else (some ([] : List Int)))) = some r := by first | (rw [j4]; with_reducible exact H) | (have H2_ := (Option.bind_some _ _).symm.trans H; rw [j4]; with_reducible exact H2_) | (have H2_ := (Option.bind_some _ _).symm.trans H; with_reducible exact H2_) | with_reducible exact H | (rw [j4]; exact H) | exact H
 have j5 := Aside0.mk j4
 clear j4
 replace H := Option.bind_eq_some_iff.mp H
 obtain ⟨j6, A30, H⟩ := H
 replace H : (if j6 = true then ((impl_Net_from.f k a0_0 l0_1 a1).bind fun j3 => (some j3)) else (some ([] : List Int))) = some r := H
 have A3 := Aside0.mk A30
 clear A30
 by_cases c4 : j6 = true
 ·
  subst c4; rw [if_pos rfl] at H; replace H := Option.bind_eq_some_iff.mp H; obtain ⟨j3, A50, H⟩ := H; replace H : (some j3) = some r := H; have A5 := Aside0.mk A50; clear A50; obtain rfl := Option.some.inj H; go_enter Try.func51, Try.ntmps51; go_wp2_with (first | ((with_reducible refine gate_dst (N := 2) rfl ?_); refine be (cs := #[.int .i64 a0_0, .slice A0_1 l0_1.length c0_1]) (t := 25) ?_; intro ja hg w6 hbox hb; have j0 := Aside0.mk (hbox); have jb := gz w hg (uB0 HB); have j2 := gz w hg (uB0 HB); replace HB := Aside0.mk (below_step (uB0 HB) hb); clear hb hbox hg; obtain ⟨jl, jm, jn, jo⟩ := bc2 j0) | ((with_reducible refine gate_dst (N := 7) rfl ?_); refine Kd.R_lit (Kd.int .i64) _ 3 ?hg (N := 7) ?hd (xs := ([a1] : List Int)) (inner := [.int .i64 a1]) (ok := fun _ => True) (okp := fun _ => True) ?hr ?hp (fun _ hk => hk) trivial (Below.refl _ _) (Nat.le_refl _) (by simp) ?_; (case hd => rfl); (case hg => rfl); (case hr => first | (go_simp; done) | (go_simp; rfl)); (case hp => exact (Reps.one (show Kd.M (Kd.int .i64) _ _ _ a1 [.int .i64 a1] from rfl) (Reps.none _ _))); intro v103 w8 ho9 hb hg_ hnew_; clear hg_ hnew_; (first | rw [← j5.out] at ho9 | (simp only [Int.reduceToNat] at ho9; rw [← j5.out] at ho9)); have j1 := Aside0.mk (Kd.R_lower ho9 (below_size (uB1 HB j2.out))); replace j0 := bb j0 hb; replace HB := Aside0.mk (below_step (uB1 HB j2.out) hb); clear hb ho9; obtain ⟨jp, jq, jr⟩ := Kd.R_slice j1.out; subst jr) | ((with_reducible refine gate_callee (f := 92) rfl ?_); refine goesL_ (some 8) rfl rfl Try.func92 (by kernel_rfl) rfl #[.agg #[.int .i64 a0_0, .slice A0_1 l0_1.length c0_1], .slice jp j9.length jq] rfl ul ?_; (with_reducible refine (impl_nodesIn.calls a0_0 _ _ l0_1 _ _ j9 true _ ?side1 ?side2 ?side3 ?side4 A3.out).mono ?_); (case side1 => exact uC j7 HB); (case side2 => exact j8.out); (case side3 => exact uD (Kd.R_reads' j1.out).2.2); (case side4 => exact (Kd.R_reads' j1.out).2.1); rintro e w11 ⟨rfl, hb⟩; refine ⟨_, rfl, ?_⟩; replace j1 := Aside0.mk (Kd.R_below (ur j1) hb); replace j0 := bb j0 hb; replace HB := Aside0.mk (below_step (uB1 HB j2.out) hb); (try clear hb); (try clear hb2); (try clear hk); (try clear hi); obtain ⟨jd, je, jf, jg⟩ := bc2 j0) | ((with_reducible refine gate_callee (f := 89) rfl ?_); refine goesL_ (some 12) rfl rfl Try.func89 (by kernel_rfl) rfl #[.agg #[.int .i64 a0_0, .slice A0_1 l0_1.length c0_1], .int .i64 a1] rfl ul ?_; (with_reducible refine (impl_Net_from.calls k a0_0 _ _ l0_1 a1 j3 _ ?side1 ?side2 A5.out).mono ?_); (case side1 => exact uC j7 HB); (case side2 => exact j8.out); rintro e w13 ⟨v107, rfl, ho0, hb⟩; refine ⟨_, rfl, ?_⟩; have jc := Aside0.mk (Kd.R_lower (Kd.R_new' ho0 (Kd.R_lt (ur j1))) (below_size (uB1 HB j2.out))); replace j1 := Aside0.mk (Kd.R_elder' (ur j1) (Kd.R_base ho0) hb); replace j0 := bb j0 hb; replace HB := Aside0.mk (below_step (uB1 HB j2.out) hb); (try clear hb); (try clear hb2); (try clear hk); (try clear hi); (try clear ho0))); go_ret; exact ⟨_, by first | rfl | (simp [errW_none, errW_some] <;> rfl) | (simp [*, errW_none, errW_some] <;> rfl), by (with_reducible repeat (first | apply Kd.R_alloc | apply Kd.R_drewN | apply Kd.R_drew)); exact Kd.R_mono jc.out (fun _ hk => trivial), uB1 HB j2.out⟩
 ·
  replace c4 := Bool.eq_false_iff.mpr c4; subst c4; rw [if_neg (show ¬ (false = true) by decide)] at H; obtain rfl := Option.some.inj H; go_enter Try.func51, Try.ntmps51; go_wp2_with (first | ((with_reducible refine gate_dst (N := 2) rfl ?_); refine be (cs := #[.int .i64 a0_0, .slice A0_1 l0_1.length c0_1]) (t := 25) ?_; intro ja hg w14 hbox hb; have j0 := Aside0.mk (hbox); have jb := gz w hg (uB0 HB); have j2 := gz w hg (uB0 HB); replace HB := Aside0.mk (below_step (uB0 HB) hb); clear hb hbox hg; obtain ⟨jh, ji, jj, jk⟩ := bc2 j0) | ((with_reducible refine gate_dst (N := 7) rfl ?_); refine Kd.R_lit (Kd.int .i64) _ 3 ?hg (N := 7) ?hd (xs := ([a1] : List Int)) (inner := [.int .i64 a1]) (ok := fun _ => True) (okp := fun _ => True) ?hr ?hp (fun _ hk => hk) trivial (Below.refl _ _) (Nat.le_refl _) (by simp) ?_; (case hd => rfl); (case hg => rfl); (case hr => first | (go_simp; done) | (go_simp; rfl)); (case hp => exact (Reps.one (show Kd.M (Kd.int .i64) _ _ _ a1 [.int .i64 a1] from rfl) (Reps.none _ _))); intro v103 w16 ho17 hb hg_ hnew_; clear hg_ hnew_; (first | rw [← j5.out] at ho17 | (simp only [Int.reduceToNat] at ho17; rw [← j5.out] at ho17)); have j1 := Aside0.mk (Kd.R_lower ho17 (below_size (uB1 HB j2.out))); replace j0 := bb j0 hb; replace HB := Aside0.mk (below_step (uB1 HB j2.out) hb); clear hb ho17; obtain ⟨js, jt, ju⟩ := Kd.R_slice j1.out; subst ju) | ((with_reducible refine gate_callee (f := 92) rfl ?_); refine goesL_ (some 8) rfl rfl Try.func92 (by kernel_rfl) rfl #[.agg #[.int .i64 a0_0, .slice A0_1 l0_1.length c0_1], .slice js j9.length jt] rfl ul ?_; (with_reducible refine (impl_nodesIn.calls a0_0 _ _ l0_1 _ _ j9 false _ ?side1 ?side2 ?side3 ?side4 A3.out).mono ?_); (case side1 => exact uC j7 HB); (case side2 => exact j8.out); (case side3 => exact uD (Kd.R_reads' j1.out).2.2); (case side4 => exact (Kd.R_reads' j1.out).2.1); rintro e w19 ⟨rfl, hb⟩; refine ⟨_, rfl, ?_⟩; replace j1 := Aside0.mk (Kd.R_below (ur j1) hb); replace j0 := bb j0 hb; replace HB := Aside0.mk (below_step (uB1 HB j2.out) hb); (try clear hb); (try clear hb2); (try clear hk); (try clear hi))); go_ret; exact ⟨_, by first | rfl | (simp [errW_none, errW_some] <;> rfl) | (simp [*, errW_none, errW_some] <;> rfl), by first | exact Kd.R_nil _ _ _ _ _ | exact Kd.N_nil _ _ _ _ _ | exact Kd.V_nil _ _ _ _ _ | exact Kd.Q_nil _ _ _ _ _ | exact Kd.S_nil _ _ _ _ _, uB1 HB j2.out⟩

end Go.Proofs.Ytblpdfgplifccaa.P
