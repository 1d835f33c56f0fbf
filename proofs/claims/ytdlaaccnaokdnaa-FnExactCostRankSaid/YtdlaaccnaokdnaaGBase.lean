-- written for this claim by a program (wip/gen/myprint.py over the print tool). Not trusted: Lean checks it.
import Derived.Test.YtdlaaccnaokdnaaPx0
import Derived.Test.YtdlaaccnaokdnaaHUp
namespace Go.Proofs.Ytdlaaccnaokdnaa.P
open Go.RowKit Go.Proofs.YtdlaaccnaokdnaaV.PrintWords Go.Proofs.YtdlaaccnaokdnaaV.PrintLast
set_option linter.unusedVariables false
set_option linter.unusedSimpArgs false

/-! ### impl_within: function 96 -/
def impl_within.f (a0 : Int) (a1 : Int) (a2 : Int) : Option (Bool) := if a0 ≥ a1 then (some (decide (a0 ≤ a2))) else (some false)
set_option maxHeartbeats 8000000 in
set_option maxRecDepth 100000 in
theorem impl_within.calls (a0 : Int) (a1 : Int) (a2 : Int) (r : Bool) (w : World) (h : impl_within.f a0 a1 a2 = some r) :
  Calls Try.prog 96 #[.int .i64 a0, .int .i64 a1, .int .i64 a2] w fun e w' => e = .returned (.bool r) ∧ Drawn0 w w' := by
 have H : (if a0 ≥ a1 then (some (decide (a0 ≤ a2))) else (some false)) = some r := h
 clear h
 by_cases c4 : a0 ≥ a1
 ·
  rw [if_pos c4] at H; have c4b0 := de c4; clear c4; obtain rfl := Option.some.inj H; go_enter Try.func96, Try.ntmps96; go_wp2; go_ret; exact ⟨by first | rfl | (simp; done) | (simp [*]; done), by repeat (first | exact Drawn0.refl _ | apply Drawn0.step)⟩
 ·
  rw [if_neg c4] at H; have c4b0 := DE c4; clear c4; obtain rfl := Option.some.inj H; go_enter Try.func96, Try.ntmps96; go_wp2; go_ret; exact ⟨by first | rfl | (simp; done) | (simp [*]; done), by repeat (first | exact Drawn0.refl _ | apply Drawn0.step)⟩

end Go.Proofs.Ytdlaaccnaokdnaa.P
namespace Go.Proofs.Ytdlaaccnaokdnaa.P
open Go.RowKit Go.Proofs.YtdlaaccnaokdnaaV.PrintWords Go.Proofs.YtdlaaccnaokdnaaV.PrintLast
set_option linter.unusedVariables false
set_option linter.unusedSimpArgs false

/-! ### impl_costOk: function 105 -/
def impl_costOk.f (a0 : Int) : Option (Bool) := (impl_within.f a0 0 99).bind fun t101 => (some t101)
set_option maxHeartbeats 8000000 in
set_option maxRecDepth 100000 in
theorem impl_costOk.calls (a0 : Int) (r : Bool) (w : World) (h : impl_costOk.f a0 = some r) :
  Calls Try.prog 105 #[.int .i64 a0] w fun e w' => e = .returned (.bool r) ∧ Drawn0 w w' := by
 have H : ((impl_within.f a0 0 99).bind fun t101 => (some t101)) = some r := h
 clear h
 replace H := Option.bind_eq_some_iff.mp H
 obtain ⟨t101, A20, H⟩ := H
 replace H : (some t101) = some r := H
 have A2 := Aside0.mk A20
 clear A20
 obtain rfl := Option.some.inj H
 go_enter Try.func105, Try.ntmps105
 go_wp2_with (first | ((with_reducible refine gate_callee (f := 96) rfl ?_); refine goesL_ (some 4) rfl rfl Try.func96 (by kernel_rfl) rfl #[.int .i64 a0, .int .i64 0, .int .i64 99] rfl ul ?_; (with_reducible refine (impl_within.calls a0 0 99 t101 _ A2.out).mono ?_); rintro e w' ⟨rfl, ⟨nd, rfl⟩⟩; refine ⟨_, rfl, ?_⟩))
 go_ret
 exact ⟨by first | rfl | (simp; done) | (simp [*]; done), by repeat (first | exact Drawn0.refl _ | apply Drawn0.step)⟩

end Go.Proofs.Ytdlaaccnaokdnaa.P
namespace Go.Proofs.Ytdlaaccnaokdnaa.P
open Go.RowKit Go.Proofs.YtdlaaccnaokdnaaV.PrintWords Go.Proofs.YtdlaaccnaokdnaaV.PrintLast
set_option linter.unusedVariables false
set_option linter.unusedSimpArgs false

/-! ### spec_l1In: function 52 -/
def spec_l1In.f (a0 : Int) (a1 : Int) (a2 : Int) : Option (Bool) := if a0 ≥ a1 then (some (decide (a0 ≤ a2))) else (some false)
set_option maxHeartbeats 8000000 in
set_option maxRecDepth 100000 in
theorem spec_l1In.calls (a0 : Int) (a1 : Int) (a2 : Int) (r : Bool) (w : World) (h : spec_l1In.f a0 a1 a2 = some r) :
  Calls Try.prog 52 #[.int .i64 a0, .int .i64 a1, .int .i64 a2] w fun e w' => e = .returned (.bool r) ∧ Drawn0 w w' := by
 have H : (if a0 ≥ a1 then (some (decide (a0 ≤ a2))) else (some false)) = some r := h
 clear h
 by_cases c4 : a0 ≥ a1
 ·
  rw [if_pos c4] at H; have c4b0 := de c4; clear c4; obtain rfl := Option.some.inj H; go_enter Try.func52, Try.ntmps52; go_wp2; go_ret; exact ⟨by first | rfl | (simp; done) | (simp [*]; done), by repeat (first | exact Drawn0.refl _ | apply Drawn0.step)⟩
 ·
  rw [if_neg c4] at H; have c4b0 := DE c4; clear c4; obtain rfl := Option.some.inj H; go_enter Try.func52, Try.ntmps52; go_wp2; go_ret; exact ⟨by first | rfl | (simp; done) | (simp [*]; done), by repeat (first | exact Drawn0.refl _ | apply Drawn0.step)⟩

end Go.Proofs.Ytdlaaccnaokdnaa.P
namespace Go.Proofs.Ytdlaaccnaokdnaa.P
open Go.RowKit Go.Proofs.YtdlaaccnaokdnaaV.PrintWords Go.Proofs.YtdlaaccnaokdnaaV.PrintLast
set_option linter.unusedVariables false
set_option linter.unusedSimpArgs false

/-! ### spec_l1Ok: function 82 -/
def spec_l1Ok.l0 : Nat → Int → Int → List (S61) → Option (Bool)
 | 0, _, _, _ => none
 | k + 1, x3, x102000, x102001 => if x3 < (x102001.length : Int) then (if 0 ≤ x3 then ((spec_l1In.f ((rd_T61 x102001 x3).f0) 0 (wrap64 (x102000 - 1))).bind fun t105 => (if t105 = true then ((spec_l1In.f ((rd_T61 x102001 x3).f1) 0 (wrap64 (x102000 - 1))).bind fun t106 => (if t106 = true then (if ((rd_T61 x102001 x3).f0) = ((rd_T61 x102001 x3).f1) then (some false) else ((spec_l1In.f ((rd_T61 x102001 x3).f2) 0 99).bind fun t107 => (if t107 = true then ((spec_l1In.f ((rd_T61 x102001 x3).f3) 0 99).bind fun t108 => (if t108 = true then ((spec_l1In.f ((rd_T61 x102001 x3).f4) 0 9).bind fun t109 => (if t109 = true then (spec_l1Ok.l0 k (wrap64 (x3 + 1)) x102000 x102001) else (some false))) else (some false))) else (some false)))) else (some false))) else (some false))) else (none)) else ((spec_l1In.f x102000 1 8).bind fun t102 => (if t102 = true then (some (decide ((x102001.length : Int) ≤ 16))) else (some false)))
def spec_l1Ok.f (k : Nat) (a0_0 : Int) (l0_1 : List (S61)) : Option (Bool) := spec_l1Ok.l0 k 0 a0_0 l0_1
set_option maxHeartbeats 8000000 in
set_option maxRecDepth 100000 in
theorem spec_l1Ok.calls (k : Nat) (a0_0 : Int) (A0_1 : Option Addr) (c0_1 : Nat) (l0_1 : List (S61)) (r : Bool) (w : World) (hr0_1 : Kd.C k61 w A0_1 l0_1.length l0_1) (hc0_1 : l0_1.length ≤ c0_1) (h : spec_l1Ok.f k a0_0 l0_1 = some r) :
  Calls Try.prog 82 #[.agg #[.int .i64 a0_0, .slice A0_1 l0_1.length c0_1]] w fun e w' => e = .returned (.bool r) ∧ Below w.heap.size w w' := by
 have hu35 := Try.underlying35
 have hu61 := Try.underlying61
 have jf := Aside0.mk hr0_1
 have j1H := Aside0.mk hc0_1
 clear hr0_1 hc0_1
 have HB := Aside0.mk (Below.refl w.heap.size w)
 have H : (spec_l1Ok.l0 k 0 a0_0 l0_1) = some r := h
 clear h
 have H' := Aside0.mk H
 clear H
 go_enter Try.func82, Try.ntmps82
 go_wp2_with (first | ((with_reducible refine gate_dst (N := 1) rfl ?_); refine be (cs := #[.int .i64 a0_0, .slice A0_1 l0_1.length c0_1]) (t := 35) ?_; intro jn hg w2 hbox hb; have j1 := Aside0.mk (hbox); have j1I := gz w hg (uB0 HB); have j9 := gz w hg (uB0 HB); replace HB := Aside0.mk (below_step (uB0 HB) hb); clear hb hbox hg))
 go_loopg [3] k (fun kq v3 w' => ∃ (j0 : Int), v3 = .int .i64 j0 ∧ Aside0 (spec_l1Ok.l0 kq j0 a0_0 l0_1 = some r) ∧ Aside0 (kq ≤ k) ∧ Aside0 (w'.heap[jn]? = some (.cells #[.int .i64 a0_0, (.slice A0_1 l0_1.length c0_1)] 35 (0, 0))) ∧ Aside0 (Below w.heap.size w w'))
 case atStart => exact ⟨(0), ue, H', ⟨Nat.le_refl _⟩, ⟨ub j1⟩, ⟨uB1 HB j9.out⟩⟩
 case round =>
  clear H'; try clear p2
  obtain ⟨j0, rfl, HA, HK1, j1, HB⟩ := hrel
  cases gk with
  | zero => exact absurd HA.out (by simp [spec_l1Ok.l0])
  | succ k1 =>
   have H := HA.out; clear HA; simp only [spec_l1Ok.l0] at H; by_cases c3 : j0 < (l0_1.length : Int)
   ·
    rw [if_pos c3] at H; have j1E := dl c3; clear c3; by_cases c4 : 0 ≤ j0
    ·
     rw [if_pos c4] at H; have j1X := de c4; clear c4; replace H := Option.bind_eq_some_iff.mp H; obtain ⟨jo, A50, H⟩ := H; replace H : (if jo = true then ((spec_l1In.f ((rd_T61 l0_1 j0).f1) 0 (wrap64 (a0_0 - 1))).bind fun jm => (if jm = true then (if ((rd_T61 l0_1 j0).f0) = ((rd_T61 l0_1 j0).f1) then (some false) else ((spec_l1In.f ((rd_T61 l0_1 j0).f2) 0 99).bind fun jl => (if jl = true then ((spec_l1In.f ((rd_T61 l0_1 j0).f3) 0 99).bind fun jk => (if jk = true then ((spec_l1In.f ((rd_T61 l0_1 j0).f4) 0 9).bind fun jg => (if jg = true then (spec_l1Ok.l0 k1 (wrap64 (j0 + 1)) a0_0 l0_1) else (some false))) else (some false))) else (some false)))) else (some false))) else (some false)) = some r := H; have A5 := Aside0.mk A50; clear A50; by_cases c6 : jo = true
     ·
      subst c6; rw [if_pos rfl] at H; replace H := Option.bind_eq_some_iff.mp H; obtain ⟨jm, A70, H⟩ := H; replace H : (if jm = true then (if ((rd_T61 l0_1 j0).f0) = ((rd_T61 l0_1 j0).f1) then (some false) else ((spec_l1In.f ((rd_T61 l0_1 j0).f2) 0 99).bind fun jl => (if jl = true then ((spec_l1In.f ((rd_T61 l0_1 j0).f3) 0 99).bind fun jk => (if jk = true then ((spec_l1In.f ((rd_T61 l0_1 j0).f4) 0 9).bind fun jg => (if jg = true then (spec_l1Ok.l0 k1 (wrap64 (j0 + 1)) a0_0 l0_1) else (some false))) else (some false))) else (some false)))) else (some false)) = some r := H; have A7 := Aside0.mk A70; clear A70; by_cases c8 : jm = true
      ·
       subst c8; rw [if_pos rfl] at H; by_cases c9 : ((rd_T61 l0_1 j0).f0) = ((rd_T61 l0_1 j0).f1)
       ·
        rw [if_pos c9] at H; obtain ⟨j1F, j1G⟩ := dq c9; clear c9; obtain rfl := Option.some.inj H; obtain ⟨ju, jv, jw, jx⟩ := bc2 j1; have ja : 0 ≤ (j0 : Int) := ua; have jb : j0 < (l0_1.length : Int) := ua; obtain ⟨jh, je, j2, j3, j4, j5, j6⟩ := at_T61 jf.out j0 ja jb
        cases je
        replace j2 := uc HB j2; replace j3 := uc HB j3; replace j4 := uc HB j4; replace j5 := uc HB j5; replace j6 := uc HB j6; replace ja := eq_true ja; replace jb := eq_true jb; go_wp2_with (first | ((with_reducible refine gate_dst (N := 4) rfl ?_); refine be (cs := #[.int .i64 0, .int .i64 0, .int .i64 0, .int .i64 0, .int .i64 0]) (t := 61) ?_; intro ji hg w11 hbox hb; have jc := Aside0.mk (hbox); have jj := gz w hg (uB1 HB j9.out); have jd := gz w hg (uB1 HB j9.out); replace HB := Aside0.mk (below_step (uB1 HB j9.out) hb); have j7 := gl hg j1; have j8 := gr hg j1; replace j1 := bb j1 hb; clear hb hbox hg; have j1J := j8.out; have j1K := j7.out; obtain ⟨jy, jz, jA, jB, jC, jD, jE, jF, jG, jH⟩ := bc5 jc; obtain ⟨jI, jJ, jK, jL⟩ := bc2 j1) | ((with_reducible refine gate_callee (f := 52) rfl ?_); refine goesL_ (some 22) rfl rfl Try.func52 (by kernel_rfl) rfl #[.int .i64 ((rd_T61 l0_1 j0).f0), .int .i64 0, .int .i64 (wrap64 (a0_0 - 1))] rfl ul ?_; (with_reducible refine (spec_l1In.calls ((rd_T61 l0_1 j0).f0) 0 (wrap64 (a0_0 - 1)) true _ A5.out).mono ?_); rintro e w' ⟨rfl, ⟨nd, rfl⟩⟩; refine ⟨_, rfl, ?_⟩) | (go_at_call 52; (with_reducible refine (spec_l1In.calls ((rd_T61 l0_1 j0).f1) 0 (wrap64 (a0_0 - 1)) true _ A7.out).mono ?_); rintro e w' ⟨rfl, ⟨nd, rfl⟩⟩)); go_ret; exact ⟨ux, uB2 HB j9.out jd.out⟩
       ·
        rw [if_neg c9] at H; obtain ⟨j1F, j1G⟩ := dQ c9; replace H := Option.bind_eq_some_iff.mp H; obtain ⟨jl, jp, H⟩ := H; replace H : (if jl = true then ((spec_l1In.f ((rd_T61 l0_1 j0).f3) 0 99).bind fun jk => (if jk = true then ((spec_l1In.f ((rd_T61 l0_1 j0).f4) 0 9).bind fun jg => (if jg = true then (spec_l1Ok.l0 k1 (wrap64 (j0 + 1)) a0_0 l0_1) else (some false))) else (some false))) else (some false)) = some r := H; have A15 := Aside0.mk jp; clear jp; by_cases c16 : jl = true
        ·
         subst c16; rw [if_pos rfl] at H; replace H := Option.bind_eq_some_iff.mp H; obtain ⟨jk, jq, H⟩ := H; replace H : (if jk = true then ((spec_l1In.f ((rd_T61 l0_1 j0).f4) 0 9).bind fun jg => (if jg = true then (spec_l1Ok.l0 k1 (wrap64 (j0 + 1)) a0_0 l0_1) else (some false))) else (some false)) = some r := H; have A17 := Aside0.mk jq; clear jq; by_cases c18 : jk = true
         ·
          subst c18; rw [if_pos rfl] at H; replace H := Option.bind_eq_some_iff.mp H; obtain ⟨jg, jr, H⟩ := H; replace H : (if jg = true then (spec_l1Ok.l0 k1 (wrap64 (j0 + 1)) a0_0 l0_1) else (some false)) = some r := H; have A19 := Aside0.mk jr; clear jr; by_cases c20 : jg = true
          ·
           subst c20; rw [if_pos rfl] at H; have H' := Aside0.mk H; clear H; obtain ⟨jM, jN, jO, jP⟩ := bc2 j1; have ja : 0 ≤ (j0 : Int) := ua; have jb : j0 < (l0_1.length : Int) := ua; obtain ⟨jh, je, j2, j3, j4, j5, j6⟩ := at_T61 jf.out j0 ja jb
           cases je
           replace j2 := uc HB j2; replace j3 := uc HB j3; replace j4 := uc HB j4; replace j5 := uc HB j5; replace j6 := uc HB j6; replace ja := eq_true ja; replace jb := eq_true jb; go_wp2_with (first | ((with_reducible refine gate_dst (N := 4) rfl ?_); refine be (cs := #[.int .i64 0, .int .i64 0, .int .i64 0, .int .i64 0, .int .i64 0]) (t := 61) ?_; intro ji hg w22 hbox hb; have jc := Aside0.mk (hbox); have jj := gz w hg (uB1 HB j9.out); have jd := gz w hg (uB1 HB j9.out); replace HB := Aside0.mk (below_step (uB1 HB j9.out) hb); have j7 := gl hg j1; have j8 := gr hg j1; replace j1 := bb j1 hb; clear hb hbox hg; have j1L := j8.out; have j1M := j7.out; obtain ⟨jQ, jR, jS, jT, jU, jV, jW, jX, jY, jZ⟩ := bc5 jc; obtain ⟨j00, j01, j02, j03⟩ := bc2 j1) | ((with_reducible refine gate_callee (f := 52) rfl ?_); refine goesL_ (some 22) rfl rfl Try.func52 (by kernel_rfl) rfl #[.int .i64 ((rd_T61 l0_1 j0).f0), .int .i64 0, .int .i64 (wrap64 (a0_0 - 1))] rfl ul ?_; (with_reducible refine (spec_l1In.calls ((rd_T61 l0_1 j0).f0) 0 (wrap64 (a0_0 - 1)) true _ A5.out).mono ?_); rintro e w' ⟨rfl, ⟨nd, rfl⟩⟩; refine ⟨_, rfl, ?_⟩) | (go_at_call 52; (with_reducible refine (spec_l1In.calls ((rd_T61 l0_1 j0).f1) 0 (wrap64 (a0_0 - 1)) true _ A7.out).mono ?_); rintro e w' ⟨rfl, ⟨nd, rfl⟩⟩) | (go_at_call 52; (with_reducible refine (spec_l1In.calls ((rd_T61 l0_1 j0).f2) 0 99 true _ A15.out).mono ?_); rintro e w' ⟨rfl, ⟨nd, rfl⟩⟩) | (go_at_call 52; (with_reducible refine (spec_l1In.calls ((rd_T61 l0_1 j0).f3) 0 99 true _ A17.out).mono ?_); rintro e w' ⟨rfl, ⟨nd, rfl⟩⟩) | (go_at_call 52; (with_reducible refine (spec_l1In.calls ((rd_T61 l0_1 j0).f4) 0 9 true _ A19.out).mono ?_); rintro e w' ⟨rfl, ⟨nd, rfl⟩⟩)); go_roundg k1
           case measure => have := HK1.out; omega
           case rel => exact ⟨(wrap64 (j0 + 1)), ue, H', ⟨by have := HK1.out; omega⟩, ⟨by (with_reducible repeat first | apply zbn | apply zbd | apply zba); refine fa5 ?_ j7; exact ub j1⟩, ⟨uB2 HB j9.out jd.out⟩⟩
          ·
           replace c20 := Bool.eq_false_iff.mpr c20; subst c20; rw [if_neg (show ¬ (false = true) by decide)] at H; obtain rfl := Option.some.inj H; obtain ⟨j04, j05, j06, j07⟩ := bc2 j1; have ja : 0 ≤ (j0 : Int) := ua; have jb : j0 < (l0_1.length : Int) := ua; obtain ⟨jh, je, j2, j3, j4, j5, j6⟩ := at_T61 jf.out j0 ja jb
           cases je
           replace j2 := uc HB j2; replace j3 := uc HB j3; replace j4 := uc HB j4; replace j5 := uc HB j5; replace j6 := uc HB j6; replace ja := eq_true ja; replace jb := eq_true jb; go_wp2_with (first | ((with_reducible refine gate_dst (N := 4) rfl ?_); refine be (cs := #[.int .i64 0, .int .i64 0, .int .i64 0, .int .i64 0, .int .i64 0]) (t := 61) ?_; intro ji hg w27 hbox hb; have jc := Aside0.mk (hbox); have jj := gz w hg (uB1 HB j9.out); have jd := gz w hg (uB1 HB j9.out); replace HB := Aside0.mk (below_step (uB1 HB j9.out) hb); have j7 := gl hg j1; have j8 := gr hg j1; replace j1 := bb j1 hb; clear hb hbox hg; have j1N := j8.out; have j1O := j7.out; obtain ⟨j08, j09, j0a, j0b, j0c, j0d, j0e, j0f, j0g, j0h⟩ := bc5 jc; obtain ⟨j0i, j0j, j0k, j0l⟩ := bc2 j1) | ((with_reducible refine gate_callee (f := 52) rfl ?_); refine goesL_ (some 22) rfl rfl Try.func52 (by kernel_rfl) rfl #[.int .i64 ((rd_T61 l0_1 j0).f0), .int .i64 0, .int .i64 (wrap64 (a0_0 - 1))] rfl ul ?_; (with_reducible refine (spec_l1In.calls ((rd_T61 l0_1 j0).f0) 0 (wrap64 (a0_0 - 1)) true _ A5.out).mono ?_); rintro e w' ⟨rfl, ⟨nd, rfl⟩⟩; refine ⟨_, rfl, ?_⟩) | (go_at_call 52; (with_reducible refine (spec_l1In.calls ((rd_T61 l0_1 j0).f1) 0 (wrap64 (a0_0 - 1)) true _ A7.out).mono ?_); rintro e w' ⟨rfl, ⟨nd, rfl⟩⟩) | (go_at_call 52; (with_reducible refine (spec_l1In.calls ((rd_T61 l0_1 j0).f2) 0 99 true _ A15.out).mono ?_); rintro e w' ⟨rfl, ⟨nd, rfl⟩⟩) | (go_at_call 52; (with_reducible refine (spec_l1In.calls ((rd_T61 l0_1 j0).f3) 0 99 true _ A17.out).mono ?_); rintro e w' ⟨rfl, ⟨nd, rfl⟩⟩) | (go_at_call 52; (with_reducible refine (spec_l1In.calls ((rd_T61 l0_1 j0).f4) 0 9 false _ A19.out).mono ?_); rintro e w' ⟨rfl, ⟨nd, rfl⟩⟩)); go_ret; exact ⟨ux, uB2 HB j9.out jd.out⟩
         ·
          replace c18 := Bool.eq_false_iff.mpr c18; subst c18; rw [if_neg (show ¬ (false = true) by decide)] at H; obtain rfl := Option.some.inj H; obtain ⟨j0m, j0n, j0o, j0p⟩ := bc2 j1; have ja : 0 ≤ (j0 : Int) := ua; have jb : j0 < (l0_1.length : Int) := ua; obtain ⟨jh, je, j2, j3, j4, j5, j6⟩ := at_T61 jf.out j0 ja jb
          cases je
          replace j2 := uc HB j2; replace j3 := uc HB j3; replace j4 := uc HB j4; replace j5 := uc HB j5; replace j6 := uc HB j6; replace ja := eq_true ja; replace jb := eq_true jb; go_wp2_with (first | ((with_reducible refine gate_dst (N := 4) rfl ?_); refine be (cs := #[.int .i64 0, .int .i64 0, .int .i64 0, .int .i64 0, .int .i64 0]) (t := 61) ?_; intro ji hg w32 hbox hb; have jc := Aside0.mk (hbox); have jj := gz w hg (uB1 HB j9.out); have jd := gz w hg (uB1 HB j9.out); replace HB := Aside0.mk (below_step (uB1 HB j9.out) hb); have j7 := gl hg j1; have j8 := gr hg j1; replace j1 := bb j1 hb; clear hb hbox hg; have j1P := j8.out; have j1Q := j7.out; obtain ⟨j0q, j0r, j0s, j0t, j0u, j0v, j0w, j0x, j0y, j0z⟩ := bc5 jc; obtain ⟨j0A, j0B, j0C, j0D⟩ := bc2 j1) | ((with_reducible refine gate_callee (f := 52) rfl ?_); refine goesL_ (some 22) rfl rfl Try.func52 (by kernel_rfl) rfl #[.int .i64 ((rd_T61 l0_1 j0).f0), .int .i64 0, .int .i64 (wrap64 (a0_0 - 1))] rfl ul ?_; (with_reducible refine (spec_l1In.calls ((rd_T61 l0_1 j0).f0) 0 (wrap64 (a0_0 - 1)) true _ A5.out).mono ?_); rintro e w' ⟨rfl, ⟨nd, rfl⟩⟩; refine ⟨_, rfl, ?_⟩) | (go_at_call 52; (with_reducible refine (spec_l1In.calls ((rd_T61 l0_1 j0).f1) 0 (wrap64 (a0_0 - 1)) true _ A7.out).mono ?_); rintro e w' ⟨rfl, ⟨nd, rfl⟩⟩) | (go_at_call 52; (with_reducible refine (spec_l1In.calls ((rd_T61 l0_1 j0).f2) 0 99 true _ A15.out).mono ?_); rintro e w' ⟨rfl, ⟨nd, rfl⟩⟩) | (go_at_call 52; (with_reducible refine (spec_l1In.calls ((rd_T61 l0_1 j0).f3) 0 99 false _ A17.out).mono ?_); rintro e w' ⟨rfl, ⟨nd, rfl⟩⟩)); go_ret; exact ⟨ux, uB2 HB j9.out jd.out⟩
        ·
         replace c16 := Bool.eq_false_iff.mpr c16; subst c16; rw [if_neg (show ¬ (false = true) by decide)] at H; obtain rfl := Option.some.inj H; obtain ⟨j0E, j0F, j0G, j0H⟩ := bc2 j1; have ja : 0 ≤ (j0 : Int) := ua; have jb : j0 < (l0_1.length : Int) := ua; obtain ⟨jh, je, j2, j3, j4, j5, j6⟩ := at_T61 jf.out j0 ja jb
         cases je
         replace j2 := uc HB j2; replace j3 := uc HB j3; replace j4 := uc HB j4; replace j5 := uc HB j5; replace j6 := uc HB j6; replace ja := eq_true ja; replace jb := eq_true jb; go_wp2_with (first | ((with_reducible refine gate_dst (N := 4) rfl ?_); refine be (cs := #[.int .i64 0, .int .i64 0, .int .i64 0, .int .i64 0, .int .i64 0]) (t := 61) ?_; intro ji hg w37 hbox hb; have jc := Aside0.mk (hbox); have jj := gz w hg (uB1 HB j9.out); have jd := gz w hg (uB1 HB j9.out); replace HB := Aside0.mk (below_step (uB1 HB j9.out) hb); have j7 := gl hg j1; have j8 := gr hg j1; replace j1 := bb j1 hb; clear hb hbox hg; have j1R := j8.out; have j1S := j7.out; obtain ⟨j0I, j0J, j0K, j0L, j0M, j0N, j0O, j0P, j0Q, j0R⟩ := bc5 jc; obtain ⟨j0S, j0T, j0U, j0V⟩ := bc2 j1) | ((with_reducible refine gate_callee (f := 52) rfl ?_); refine goesL_ (some 22) rfl rfl Try.func52 (by kernel_rfl) rfl #[.int .i64 ((rd_T61 l0_1 j0).f0), .int .i64 0, .int .i64 (wrap64 (a0_0 - 1))] rfl ul ?_; (with_reducible refine (spec_l1In.calls ((rd_T61 l0_1 j0).f0) 0 (wrap64 (a0_0 - 1)) true _ A5.out).mono ?_); rintro e w' ⟨rfl, ⟨nd, rfl⟩⟩; refine ⟨_, rfl, ?_⟩) | (go_at_call 52; (with_reducible refine (spec_l1In.calls ((rd_T61 l0_1 j0).f1) 0 (wrap64 (a0_0 - 1)) true _ A7.out).mono ?_); rintro e w' ⟨rfl, ⟨nd, rfl⟩⟩) | (go_at_call 52; (with_reducible refine (spec_l1In.calls ((rd_T61 l0_1 j0).f2) 0 99 false _ A15.out).mono ?_); rintro e w' ⟨rfl, ⟨nd, rfl⟩⟩)); go_ret; exact ⟨ux, uB2 HB j9.out jd.out⟩
      ·
       replace c8 := Bool.eq_false_iff.mpr c8; subst c8; rw [if_neg (show ¬ (false = true) by decide)] at H; obtain rfl := Option.some.inj H; obtain ⟨j0W, j0X, j0Y, j0Z⟩ := bc2 j1; have ja : 0 ≤ (j0 : Int) := ua; have jb : j0 < (l0_1.length : Int) := ua; obtain ⟨jh, je, j2, j3, j4, j5, j6⟩ := at_T61 jf.out j0 ja jb
       cases je
       replace j2 := uc HB j2; replace j3 := uc HB j3; replace j4 := uc HB j4; replace j5 := uc HB j5; replace j6 := uc HB j6; replace ja := eq_true ja; replace jb := eq_true jb; go_wp2_with (first | ((with_reducible refine gate_dst (N := 4) rfl ?_); refine be (cs := #[.int .i64 0, .int .i64 0, .int .i64 0, .int .i64 0, .int .i64 0]) (t := 61) ?_; intro ji hg w42 hbox hb; have jc := Aside0.mk (hbox); have jj := gz w hg (uB1 HB j9.out); have jd := gz w hg (uB1 HB j9.out); replace HB := Aside0.mk (below_step (uB1 HB j9.out) hb); have j7 := gl hg j1; have j8 := gr hg j1; replace j1 := bb j1 hb; clear hb hbox hg; have j1T := j8.out; have j1U := j7.out; obtain ⟨j10, j11, j12, j13, j14, j15, j16, j17, j18, j19⟩ := bc5 jc; obtain ⟨j1a, j1b, j1c, j1d⟩ := bc2 j1) | ((with_reducible refine gate_callee (f := 52) rfl ?_); refine goesL_ (some 22) rfl rfl Try.func52 (by kernel_rfl) rfl #[.int .i64 ((rd_T61 l0_1 j0).f0), .int .i64 0, .int .i64 (wrap64 (a0_0 - 1))] rfl ul ?_; (with_reducible refine (spec_l1In.calls ((rd_T61 l0_1 j0).f0) 0 (wrap64 (a0_0 - 1)) true _ A5.out).mono ?_); rintro e w' ⟨rfl, ⟨nd, rfl⟩⟩; refine ⟨_, rfl, ?_⟩) | (go_at_call 52; (with_reducible refine (spec_l1In.calls ((rd_T61 l0_1 j0).f1) 0 (wrap64 (a0_0 - 1)) false _ A7.out).mono ?_); rintro e w' ⟨rfl, ⟨nd, rfl⟩⟩)); go_ret; exact ⟨ux, uB2 HB j9.out jd.out⟩
     ·
      replace c6 := Bool.eq_false_iff.mpr c6; subst c6; rw [if_neg (show ¬ (false = true) by decide)] at H; obtain rfl := Option.some.inj H; obtain ⟨j1e, j1f, j1g, j1h⟩ := bc2 j1; have ja : 0 ≤ (j0 : Int) := ua; have jb : j0 < (l0_1.length : Int) := ua; obtain ⟨jh, je, j2, j3, j4, j5, j6⟩ := at_T61 jf.out j0 ja jb
      cases je
      replace j2 := uc HB j2; replace j3 := uc HB j3; replace j4 := uc HB j4; replace j5 := uc HB j5; replace j6 := uc HB j6; replace ja := eq_true ja; replace jb := eq_true jb; go_wp2_with (first | ((with_reducible refine gate_dst (N := 4) rfl ?_); refine be (cs := #[.int .i64 0, .int .i64 0, .int .i64 0, .int .i64 0, .int .i64 0]) (t := 61) ?_; intro ji hg w47 hbox hb; have jc := Aside0.mk (hbox); have jj := gz w hg (uB1 HB j9.out); have jd := gz w hg (uB1 HB j9.out); replace HB := Aside0.mk (below_step (uB1 HB j9.out) hb); have j7 := gl hg j1; have j8 := gr hg j1; replace j1 := bb j1 hb; clear hb hbox hg; have j1V := j8.out; have j1W := j7.out; obtain ⟨j1i, j1j, j1k, j1l, j1m, j1n, j1o, j1p, j1q, j1r⟩ := bc5 jc; obtain ⟨j1s, j1t, j1u, j1v⟩ := bc2 j1) | ((with_reducible refine gate_callee (f := 52) rfl ?_); refine goesL_ (some 22) rfl rfl Try.func52 (by kernel_rfl) rfl #[.int .i64 ((rd_T61 l0_1 j0).f0), .int .i64 0, .int .i64 (wrap64 (a0_0 - 1))] rfl ul ?_; (with_reducible refine (spec_l1In.calls ((rd_T61 l0_1 j0).f0) 0 (wrap64 (a0_0 - 1)) false _ A5.out).mono ?_); rintro e w' ⟨rfl, ⟨nd, rfl⟩⟩; refine ⟨_, rfl, ?_⟩)); go_ret; exact ⟨ux, uB2 HB j9.out jd.out⟩
    ·
     rw [if_neg c4] at H; exact absurd H (by simp)
   ·
    rw [if_neg c3] at H; have j1E := DL c3; clear c3; replace H := Option.bind_eq_some_iff.mp H; obtain ⟨js, jt, H⟩ := H; replace H : (if js = true then (some (decide ((l0_1.length : Int) ≤ 16))) else (some false)) = some r := H; have A51 := Aside0.mk jt; clear jt; by_cases c52 : js = true
    ·
     subst c52; rw [if_pos rfl] at H; obtain rfl := Option.some.inj H; obtain ⟨j1w, j1x, j1y, j1z⟩ := bc2 j1; go_wp2_with (first | ((with_reducible refine gate_callee (f := 52) rfl ?_); refine goesL_ (some 60) rfl rfl Try.func52 (by kernel_rfl) rfl #[.int .i64 a0_0, .int .i64 1, .int .i64 8] rfl ul ?_; (with_reducible refine (spec_l1In.calls a0_0 1 8 true _ A51.out).mono ?_); rintro e w' ⟨rfl, ⟨nd, rfl⟩⟩; refine ⟨_, rfl, ?_⟩)); go_ret; exact ⟨ux, uB1 HB j9.out⟩
    ·
     replace c52 := Bool.eq_false_iff.mpr c52; subst c52; rw [if_neg (show ¬ (false = true) by decide)] at H; obtain rfl := Option.some.inj H; obtain ⟨j1A, j1B, j1C, j1D⟩ := bc2 j1; go_wp2_with (first | ((with_reducible refine gate_callee (f := 52) rfl ?_); refine goesL_ (some 60) rfl rfl Try.func52 (by kernel_rfl) rfl #[.int .i64 a0_0, .int .i64 1, .int .i64 8] rfl ul ?_; (with_reducible refine (spec_l1In.calls a0_0 1 8 false _ A51.out).mono ?_); rintro e w' ⟨rfl, ⟨nd, rfl⟩⟩; refine ⟨_, rfl, ?_⟩)); go_ret; exact ⟨ux, uB1 HB j9.out⟩

end Go.Proofs.Ytdlaaccnaokdnaa.P
namespace Go.Proofs.Ytdlaaccnaokdnaa.P
open Go.RowKit Go.Proofs.YtdlaaccnaokdnaaV.PrintWords Go.Proofs.YtdlaaccnaokdnaaV.PrintLast
set_option linter.unusedVariables false
set_option linter.unusedSimpArgs false

/-! ### impl_metricOk_1: function 104 -/
def impl_metricOk_1.f (a0 : Int) : Option (Bool) := (impl_costOk.f a0).bind fun t101 => (some (!t101))
set_option maxHeartbeats 8000000 in
set_option maxRecDepth 100000 in
theorem impl_metricOk_1.calls (a0 : Int) (r : Bool) (w : World) (h : impl_metricOk_1.f a0 = some r) :
  Calls Try.prog 104 #[.int .i64 a0] w fun e w' => e = .returned (.bool r) ∧ Drawn0 w w' := by
 have H : ((impl_costOk.f a0).bind fun t101 => (some (!t101))) = some r := h
 clear h
 replace H := Option.bind_eq_some_iff.mp H
 obtain ⟨t101, A20, H⟩ := H
 replace H : (some (!t101)) = some r := H
 have A2 := Aside0.mk A20
 clear A20
 obtain rfl := Option.some.inj H
 go_enter Try.func104, Try.ntmps104
 go_wp2_with (first | ((with_reducible refine gate_callee (f := 105) rfl ?_); refine goesL_ (some 4) rfl rfl Try.func105 (by kernel_rfl) rfl #[.int .i64 a0] rfl ul ?_; (with_reducible refine (impl_costOk.calls a0 t101 _ A2.out).mono ?_); rintro e w' ⟨rfl, ⟨nd, rfl⟩⟩; refine ⟨_, rfl, ?_⟩))
 go_ret
 exact ⟨by first | rfl | (simp; done) | (simp [*]; done), by repeat (first | exact Drawn0.refl _ | apply Drawn0.step)⟩

end Go.Proofs.Ytdlaaccnaokdnaa.P
