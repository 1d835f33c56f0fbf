-- written for this claim by a program (wip/gen/myprint.py over the print tool). Not trusted: Lean checks it.
import Derived.Test.YtdlaaccnaokdnaaPx0
import Derived.Test.YtdlaaccnaokdnaaHUp
import Derived.Test.YtdlaaccnaokdnaaGMarks
import Derived.Test.YtdlaaccnaokdnaaGSS
namespace Go.Proofs.Ytdlaaccnaokdnaa.P
open Go.RowKit Go.Proofs.YtdlaaccnaokdnaaV.PrintWords Go.Proofs.YtdlaaccnaokdnaaV.PrintLast
set_option linter.unusedVariables false
set_option linter.unusedSimpArgs false

/-! ### laws_heldRank: function 32 -/
def laws_heldRank.f (k : Nat) (l0_0 : List Int) (l0_1 : List (List Int)) (l0_2 : List (List Int)) (a1 : Int) : Option (Int) := (laws_heldIntS.f k l0_0 a1).bind fun t102 => (if t102 < 0 then (some (-1)) else ((laws_heldIntSS.f k l0_1 t102).bind fun t103 => (if t103 < 0 then (some (-1)) else ((laws_heldIntSS.f k l0_2 t103).bind fun t104 => (if t104 < 0 then (some (-1)) else (some t104))))))
set_option maxHeartbeats 8000000 in
set_option maxRecDepth 100000 in
theorem laws_heldRank.calls (k : Nat) (A0_0 : Option Addr) (c0_0 : Nat) (l0_0 : List Int) (A0_1 : Option Addr) (c0_1 : Nat) (l0_1 : List (List Int)) (A0_2 : Option Addr) (c0_2 : Nat) (l0_2 : List (List Int)) (a1 : Int) (r : Int) (w : World) (hr0_0 : Kd.C (Kd.int .i64) w A0_0 l0_0.length l0_0) (hc0_0 : l0_0.length ≤ c0_0) (hr0_1 : Kd.C (Kd.slice 3 (Kd.int .i64)) w A0_1 l0_1.length l0_1) (hc0_1 : l0_1.length ≤ c0_1) (hr0_2 : Kd.C (Kd.slice 3 (Kd.int .i64)) w A0_2 l0_2.length l0_2) (hc0_2 : l0_2.length ≤ c0_2) (h : laws_heldRank.f k l0_0 l0_1 l0_2 a1 = some r) :
  Calls Try.prog 32 #[.agg #[.slice A0_0 l0_0.length c0_0, .slice A0_1 l0_1.length c0_1, .slice A0_2 l0_2.length c0_2], .int .i64 a1] w fun e w' => e = .returned (.int .i64 r) ∧ Below w.heap.size w w' := by
 have hu37 := Try.underlying37
 have j4 := Aside0.mk hr0_0
 have j5 := Aside0.mk hc0_0
 clear hr0_0 hc0_0
 have j6 := Aside0.mk hr0_1
 have j7 := Aside0.mk hc0_1
 clear hr0_1 hc0_1
 have j8 := Aside0.mk hr0_2
 have j9 := Aside0.mk hc0_2
 clear hr0_2 hc0_2
 have HB := Aside0.mk (Below.refl w.heap.size w)
 have H : ((laws_heldIntS.f k l0_0 a1).bind fun j3 => (if j3 < 0 then (some (-1)) else ((laws_heldIntSS.f k l0_1 j3).bind fun j1 => (if j1 < 0 then (some (-1)) else ((laws_heldIntSS.f k l0_2 j1).bind fun j0 => (if j0 < 0 then (some (-1)) else (some j0))))))) = some r := h
 clear h
 replace H := Option.bind_eq_some_iff.mp H
 obtain ⟨j3, A30, H⟩ := H
 replace H : (if j3 < 0 then (some (-1)) else ((laws_heldIntSS.f k l0_1 j3).bind fun j1 => (if j1 < 0 then (some (-1)) else ((laws_heldIntSS.f k l0_2 j1).bind fun j0 => (if j0 < 0 then (some (-1)) else (some j0)))))) = some r := H
 have A3 := Aside0.mk A30
 clear A30
 have HH_ := Aside0.mk H
 clear H
 go_enter Try.func32, Try.ntmps32
 go_upto_region 2 with (first | ((with_reducible refine gate_dst (N := 2) rfl ?_); refine be (cs := #[.slice A0_0 l0_0.length c0_0, .slice A0_1 l0_1.length c0_1, .slice A0_2 l0_2.length c0_2]) (t := 37) ?_; intro jk hg w4 hbox hb; have ja := Aside0.mk (hbox); have jl := gz w hg (uB0 HB); have j2 := gz w hg (uB0 HB); replace HB := Aside0.mk (below_step (uB0 HB) hb); clear hb hbox hg; obtain ⟨jc, jd, je, jf, jg, jh⟩ := bc3 ja) | ((with_reducible refine gate_callee (f := 28) rfl ?_); refine goesL_ (some 8) rfl rfl Try.func28 (by kernel_rfl) rfl #[.slice A0_0 l0_0.length c0_0, .int .i64 a1] rfl ul ?_; (with_reducible refine (laws_heldIntS.calls k _ _ l0_0 a1 j3 _ ?side1 ?side2 A3.out).mono ?_); (case side1 => exact uC j4 HB); (case side2 => exact j5.out); rintro e w' ⟨rfl, ⟨nd, rfl⟩⟩; refine ⟨_, rfl, ?_⟩))
 have H := HH_.out
 clear HH_
 by_cases c6 : j3 < 0
 ·
  rw [if_pos c6] at H; have ji := dl c6; clear c6; obtain rfl := Option.some.inj H; go_wp2; go_ret; exact ⟨ux, uB1 HB j2.out⟩
 ·
  rw [if_neg c6] at H; have ji := DL c6; clear c6; replace H := Option.bind_eq_some_iff.mp H; obtain ⟨j1, A70, H⟩ := H; replace H : (if j1 < 0 then (some (-1)) else ((laws_heldIntSS.f k l0_2 j1).bind fun j0 => (if j0 < 0 then (some (-1)) else (some j0)))) = some r := H; have A7 := Aside0.mk A70; clear A70; have HH_ := Aside0.mk H; clear H; go_upto_region 5 with (first | ((with_reducible refine gate_callee (f := 73) rfl ?_); refine goesL_ (some 14) rfl rfl Try.func73 (by kernel_rfl) rfl #[.slice A0_1 l0_1.length c0_1, .int .i64 j3] rfl ul ?_; (with_reducible refine (laws_heldIntSS.calls k _ _ l0_1 j3 j1 _ ?side1 ?side2 A7.out).mono ?_); (case side1 => repeat (first | exact (Kd.C_below j6.out (uB1 HB j2.out)) | (with_reducible refine Kd.C_alloc ?_ _) | (with_reducible refine Kd.C_drewN ?_ _) | (with_reducible refine Kd.C_drew ?_))); (case side2 => exact j7.out); rintro e w' ⟨rfl, ⟨nd, rfl⟩⟩; refine ⟨_, rfl, ?_⟩))
  have H := HH_.out; clear HH_; by_cases c8 : j1 < 0
  ·
   rw [if_pos c8] at H; have jj := dl c8; clear c8; obtain rfl := Option.some.inj H; go_wp2; go_ret; exact ⟨ux, uB1 HB j2.out⟩
  ·
   rw [if_neg c8] at H; have jj := DL c8; clear c8; replace H := Option.bind_eq_some_iff.mp H; obtain ⟨j0, A90, H⟩ := H; replace H : (if j0 < 0 then (some (-1)) else (some j0)) = some r := H; have A9 := Aside0.mk A90; clear A90; have HH_ := Aside0.mk H; clear H; go_upto_region 8 with (first | ((with_reducible refine gate_callee (f := 73) rfl ?_); refine goesL_ (some 20) rfl rfl Try.func73 (by kernel_rfl) rfl #[.slice A0_2 l0_2.length c0_2, .int .i64 j1] rfl ul ?_; (with_reducible refine (laws_heldIntSS.calls k _ _ l0_2 j1 j0 _ ?side1 ?side2 A9.out).mono ?_); (case side1 => repeat (first | exact (Kd.C_below j8.out (uB1 HB j2.out)) | (with_reducible refine Kd.C_alloc ?_ _) | (with_reducible refine Kd.C_drewN ?_ _) | (with_reducible refine Kd.C_drew ?_))); (case side2 => exact j9.out); rintro e w' ⟨rfl, ⟨nd, rfl⟩⟩; refine ⟨_, rfl, ?_⟩))
   have H := HH_.out; clear HH_; by_cases c10 : j0 < 0
   ·
    rw [if_pos c10] at H; have jb := dl c10; clear c10; obtain rfl := Option.some.inj H; go_wp2; go_ret; exact ⟨ux, uB1 HB j2.out⟩
   ·
    rw [if_neg c10] at H; have jb := DL c10; clear c10; obtain rfl := Option.some.inj H; go_wp2; go_ret; exact ⟨ux, uB1 HB j2.out⟩

end Go.Proofs.Ytdlaaccnaokdnaa.P
