-- written for this claim by a program (wip/gen/myprint.py over the print tool). Not trusted: Lean checks it.
import Derived.Test.YtdlaaccnaokdnaaPx0
import Derived.Test.YtdlaaccnaokdnaaHUp
import Derived.Test.YtdlaaccnaokdnaaGWk
namespace Go.Proofs.Ytdlaaccnaokdnaa.P
open Go.RowKit Go.Proofs.YtdlaaccnaokdnaaV.PrintWords Go.Proofs.YtdlaaccnaokdnaaV.PrintLast
set_option linter.unusedVariables false
set_option linter.unusedSimpArgs false

/-! ### laws_wkRank: function 38 -/
def laws_wkRank.f (k : Nat) (l0_0 : List Int) (l0_1 : List (List Int)) (l0_2 : List (List Int)) (l1_0 : List Int) (l1_1 : List (List Int)) (l1_2 : List (List Int)) : Option (Bool) := (laws_wkInts.f k l0_0 l1_0).bind fun t103 => (if t103 = true then ((laws_wkGrid.f k l0_1 l1_1).bind fun t104 => (if t104 = true then ((laws_wkGrid.f k l0_2 l1_2).bind fun t105 => (some t105)) else (some false))) else (some false))
set_option maxHeartbeats 8000000 in
set_option maxRecDepth 100000 in
theorem laws_wkRank.calls (k : Nat) (A0_0 : Option Addr) (c0_0 : Nat) (l0_0 : List Int) (A0_1 : Option Addr) (c0_1 : Nat) (l0_1 : List (List Int)) (A0_2 : Option Addr) (c0_2 : Nat) (l0_2 : List (List Int)) (A1_0 : Option Addr) (c1_0 : Nat) (l1_0 : List Int) (A1_1 : Option Addr) (c1_1 : Nat) (l1_1 : List (List Int)) (A1_2 : Option Addr) (c1_2 : Nat) (l1_2 : List (List Int)) (r : Bool) (w : World) (hr0_0 : Kd.C (Kd.int .i64) w A0_0 l0_0.length l0_0) (hc0_0 : l0_0.length ≤ c0_0) (hr0_1 : Kd.C (Kd.slice 3 (Kd.int .i64)) w A0_1 l0_1.length l0_1) (hc0_1 : l0_1.length ≤ c0_1) (hr0_2 : Kd.C (Kd.slice 3 (Kd.int .i64)) w A0_2 l0_2.length l0_2) (hc0_2 : l0_2.length ≤ c0_2) (hr1_0 : Kd.C (Kd.int .i64) w A1_0 l1_0.length l1_0) (hc1_0 : l1_0.length ≤ c1_0) (hr1_1 : Kd.C (Kd.slice 3 (Kd.int .i64)) w A1_1 l1_1.length l1_1) (hc1_1 : l1_1.length ≤ c1_1) (hr1_2 : Kd.C (Kd.slice 3 (Kd.int .i64)) w A1_2 l1_2.length l1_2) (hc1_2 : l1_2.length ≤ c1_2) (h : laws_wkRank.f k l0_0 l0_1 l0_2 l1_0 l1_1 l1_2 = some r) :
  Calls Try.prog 38 #[.agg #[.slice A0_0 l0_0.length c0_0, .slice A0_1 l0_1.length c0_1, .slice A0_2 l0_2.length c0_2], .agg #[.slice A1_0 l1_0.length c1_0, .slice A1_1 l1_1.length c1_1, .slice A1_2 l1_2.length c1_2]] w fun e w' => e = .returned (.bool r) ∧ Below w.heap.size w w' := by
 have hu37 := Try.underlying37
 have j8 := Aside0.mk hr0_0
 have j9 := Aside0.mk hc0_0
 clear hr0_0 hc0_0
 have jd := Aside0.mk hr0_1
 have je := Aside0.mk hc0_1
 clear hr0_1 hc0_1
 have jl := Aside0.mk hr0_2
 have jm := Aside0.mk hc0_2
 clear hr0_2 hc0_2
 have ja := Aside0.mk hr1_0
 have jb := Aside0.mk hc1_0
 clear hr1_0 hc1_0
 have jf := Aside0.mk hr1_1
 have jg := Aside0.mk hc1_1
 clear hr1_1 hc1_1
 have jn := Aside0.mk hr1_2
 have jo := Aside0.mk hc1_2
 clear hr1_2 hc1_2
 have HB := Aside0.mk (Below.refl w.heap.size w)
 have H : ((laws_wkInts.f k l0_0 l1_0).bind fun jc => (if jc = true then ((laws_wkGrid.f k l0_1 l1_1).bind fun j7 => (if j7 = true then ((laws_wkGrid.f k l0_2 l1_2).bind fun j5 => (some j5)) else (some false))) else (some false))) = some r := h
 clear h
 replace H := Option.bind_eq_some_iff.mp H
 obtain ⟨jc, A30, H⟩ := H
 replace H : (if jc = true then ((laws_wkGrid.f k l0_1 l1_1).bind fun j7 => (if j7 = true then ((laws_wkGrid.f k l0_2 l1_2).bind fun j5 => (some j5)) else (some false))) else (some false)) = some r := H
 have A3 := Aside0.mk A30
 clear A30
 by_cases c4 : jc = true
 ·
  subst c4; rw [if_pos rfl] at H; replace H := Option.bind_eq_some_iff.mp H; obtain ⟨j7, A50, H⟩ := H; replace H : (if j7 = true then ((laws_wkGrid.f k l0_2 l1_2).bind fun j5 => (some j5)) else (some false)) = some r := H; have A5 := Aside0.mk A50; clear A50; by_cases c6 : j7 = true
  ·
   subst c6; rw [if_pos rfl] at H; replace H := Option.bind_eq_some_iff.mp H; obtain ⟨j5, A70, H⟩ := H; replace H : (some j5) = some r := H; have A7 := Aside0.mk A70; clear A70; obtain rfl := Option.some.inj H; go_enter Try.func38, Try.ntmps38; go_wp2_with (first | ((with_reducible refine gate_dst (N := 2) rfl ?_); refine be (cs := #[.slice A0_0 l0_0.length c0_0, .slice A0_1 l0_1.length c0_1, .slice A0_2 l0_2.length c0_2]) (t := 37) ?_; intro jh hg w8 hbox hb; have j1 := Aside0.mk (hbox); have ji := gz w hg (uB0 HB); have j0 := gz w hg (uB0 HB); replace HB := Aside0.mk (below_step (uB0 HB) hb); clear hb hbox hg) | ((with_reducible refine gate_dst (N := 3) rfl ?_); refine be (cs := #[.slice A1_0 l1_0.length c1_0, .slice A1_1 l1_1.length c1_1, .slice A1_2 l1_2.length c1_2]) (t := 37) ?_; intro jj hg w9 hbox hb; have j6 := Aside0.mk (hbox); have jk := gz w hg (uB1 HB j0.out); have j4 := gz w hg (uB1 HB j0.out); replace HB := Aside0.mk (below_step (uB1 HB j0.out) hb); have j2 := gl hg j1; have j3 := gr hg j1; replace j1 := bb j1 hb; clear hb hbox hg; have jZ := j2.out; have j00 := j3.out; obtain ⟨jp, jq, jr, js, jt, ju⟩ := bc3 j1; obtain ⟨jv, jw, jx, jy, jz, jA⟩ := bc3 j6) | ((with_reducible refine gate_callee (f := 42) rfl ?_); refine goesL_ (some 9) rfl rfl Try.func42 (by kernel_rfl) rfl #[.slice A0_0 l0_0.length c0_0, .slice A1_0 l1_0.length c1_0] rfl ul ?_; (with_reducible refine (laws_wkInts.calls k _ _ l0_0 _ _ l1_0 true _ ?side1 ?side2 ?side3 ?side4 A3.out).mono ?_); (case side1 => exact uC j8 HB); (case side2 => exact j9.out); (case side3 => exact uC ja HB); (case side4 => exact jb.out); rintro e w' ⟨rfl, ⟨nd, rfl⟩⟩; refine ⟨_, rfl, ?_⟩) | (go_at_call 81; (with_reducible refine (laws_wkGrid.calls k _ _ l0_1 _ _ l1_1 true _ ?side1 ?side2 ?side3 ?side4 A5.out).mono ?_); (case side1 => repeat (exact (Kd.C_below jd.out (uB2 HB j0.out j4.out)))); (case side2 => exact je.out); (case side3 => repeat (exact (Kd.C_below jf.out (uB2 HB j0.out j4.out)))); (case side4 => exact jg.out); rintro e w' ⟨rfl, ⟨nd, rfl⟩⟩) | (go_at_call 81; (with_reducible refine (laws_wkGrid.calls k _ _ l0_2 _ _ l1_2 j5 _ ?side1 ?side2 ?side3 ?side4 A7.out).mono ?_); (case side1 => repeat (exact (Kd.C_below jl.out (uB2 HB j0.out j4.out)))); (case side2 => exact jm.out); (case side3 => repeat (exact (Kd.C_below jn.out (uB2 HB j0.out j4.out)))); (case side4 => exact jo.out); rintro e w' ⟨rfl, ⟨nd, rfl⟩⟩)); go_ret; exact ⟨ux, uB2 HB j0.out j4.out⟩
  ·
   replace c6 := Bool.eq_false_iff.mpr c6; subst c6; rw [if_neg (show ¬ (false = true) by decide)] at H; obtain rfl := Option.some.inj H; go_enter Try.func38, Try.ntmps38; go_wp2_with (first | ((with_reducible refine gate_dst (N := 2) rfl ?_); refine be (cs := #[.slice A0_0 l0_0.length c0_0, .slice A0_1 l0_1.length c0_1, .slice A0_2 l0_2.length c0_2]) (t := 37) ?_; intro jh hg w13 hbox hb; have j1 := Aside0.mk (hbox); have ji := gz w hg (uB0 HB); have j0 := gz w hg (uB0 HB); replace HB := Aside0.mk (below_step (uB0 HB) hb); clear hb hbox hg) | ((with_reducible refine gate_dst (N := 3) rfl ?_); refine be (cs := #[.slice A1_0 l1_0.length c1_0, .slice A1_1 l1_1.length c1_1, .slice A1_2 l1_2.length c1_2]) (t := 37) ?_; intro jj hg w14 hbox hb; have j6 := Aside0.mk (hbox); have jk := gz w hg (uB1 HB j0.out); have j4 := gz w hg (uB1 HB j0.out); replace HB := Aside0.mk (below_step (uB1 HB j0.out) hb); have j2 := gl hg j1; have j3 := gr hg j1; replace j1 := bb j1 hb; clear hb hbox hg; have j01 := j2.out; have j02 := j3.out; obtain ⟨jB, jC, jD, jE, jF, jG⟩ := bc3 j1; obtain ⟨jH, jI, jJ, jK, jL, jM⟩ := bc3 j6) | ((with_reducible refine gate_callee (f := 42) rfl ?_); refine goesL_ (some 9) rfl rfl Try.func42 (by kernel_rfl) rfl #[.slice A0_0 l0_0.length c0_0, .slice A1_0 l1_0.length c1_0] rfl ul ?_; (with_reducible refine (laws_wkInts.calls k _ _ l0_0 _ _ l1_0 true _ ?side1 ?side2 ?side3 ?side4 A3.out).mono ?_); (case side1 => exact uC j8 HB); (case side2 => exact j9.out); (case side3 => exact uC ja HB); (case side4 => exact jb.out); rintro e w' ⟨rfl, ⟨nd, rfl⟩⟩; refine ⟨_, rfl, ?_⟩) | (go_at_call 81; (with_reducible refine (laws_wkGrid.calls k _ _ l0_1 _ _ l1_1 false _ ?side1 ?side2 ?side3 ?side4 A5.out).mono ?_); (case side1 => repeat (exact (Kd.C_below jd.out (uB2 HB j0.out j4.out)))); (case side2 => exact je.out); (case side3 => repeat (exact (Kd.C_below jf.out (uB2 HB j0.out j4.out)))); (case side4 => exact jg.out); rintro e w' ⟨rfl, ⟨nd, rfl⟩⟩)); go_ret; exact ⟨ux, uB2 HB j0.out j4.out⟩
 ·
  replace c4 := Bool.eq_false_iff.mpr c4; subst c4; rw [if_neg (show ¬ (false = true) by decide)] at H; obtain rfl := Option.some.inj H; go_enter Try.func38, Try.ntmps38; go_wp2_with (first | ((with_reducible refine gate_dst (N := 2) rfl ?_); refine be (cs := #[.slice A0_0 l0_0.length c0_0, .slice A0_1 l0_1.length c0_1, .slice A0_2 l0_2.length c0_2]) (t := 37) ?_; intro jh hg w18 hbox hb; have j1 := Aside0.mk (hbox); have ji := gz w hg (uB0 HB); have j0 := gz w hg (uB0 HB); replace HB := Aside0.mk (below_step (uB0 HB) hb); clear hb hbox hg) | ((with_reducible refine gate_dst (N := 3) rfl ?_); refine be (cs := #[.slice A1_0 l1_0.length c1_0, .slice A1_1 l1_1.length c1_1, .slice A1_2 l1_2.length c1_2]) (t := 37) ?_; intro jj hg w19 hbox hb; have j6 := Aside0.mk (hbox); have jk := gz w hg (uB1 HB j0.out); have j4 := gz w hg (uB1 HB j0.out); replace HB := Aside0.mk (below_step (uB1 HB j0.out) hb); have j2 := gl hg j1; have j3 := gr hg j1; replace j1 := bb j1 hb; clear hb hbox hg; have j03 := j2.out; have j04 := j3.out; obtain ⟨jN, jO, jP, jQ, jR, jS⟩ := bc3 j1; obtain ⟨jT, jU, jV, jW, jX, jY⟩ := bc3 j6) | ((with_reducible refine gate_callee (f := 42) rfl ?_); refine goesL_ (some 9) rfl rfl Try.func42 (by kernel_rfl) rfl #[.slice A0_0 l0_0.length c0_0, .slice A1_0 l1_0.length c1_0] rfl ul ?_; (with_reducible refine (laws_wkInts.calls k _ _ l0_0 _ _ l1_0 false _ ?side1 ?side2 ?side3 ?side4 A3.out).mono ?_); (case side1 => exact uC j8 HB); (case side2 => exact j9.out); (case side3 => exact uC ja HB); (case side4 => exact jb.out); rintro e w' ⟨rfl, ⟨nd, rfl⟩⟩; refine ⟨_, rfl, ?_⟩)); go_ret; exact ⟨ux, uB2 HB j0.out j4.out⟩

end Go.Proofs.Ytdlaaccnaokdnaa.P
