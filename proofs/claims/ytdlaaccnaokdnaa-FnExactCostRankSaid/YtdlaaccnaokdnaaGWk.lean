-- written for this claim by a program (wip/gen/myprint.py over the print tool). Not trusted: Lean checks it.
import Derived.Test.YtdlaaccnaokdnaaPx0
import Derived.Test.YtdlaaccnaokdnaaHUp
namespace Go.Proofs.Ytdlaaccnaokdnaa.P
open Go.RowKit Go.Proofs.YtdlaaccnaokdnaaV.PrintWords Go.Proofs.YtdlaaccnaokdnaaV.PrintLast
set_option linter.unusedVariables false
set_option linter.unusedSimpArgs false

/-! ### laws_wkInts: function 42 -/
def laws_wkInts.l0 : Nat → List Int → List Int → Int → Option (Bool)
 | 0, _, _, _ => none
 | k + 1, x0, x1, x5 => if x5 < (x0.length : Int) then (if 0 ≤ x5 then (if x5 < (x1.length : Int) then (if (rd x0 x5) = (rd x1 x5) then (laws_wkInts.l0 k x0 x1 (wrap64 (x5 + 1))) else (some false)) else (none)) else (none)) else (some true)
def laws_wkInts.f (k : Nat) (l0 : List Int) (l1 : List Int) : Option (Bool) := if (l0.length : Int) = (l1.length : Int) then (laws_wkInts.l0 k l0 l1 0) else (some false)
set_option maxHeartbeats 8000000 in
set_option maxRecDepth 100000 in
theorem laws_wkInts.calls (k : Nat) (A0 : Option Addr) (c0 : Nat) (l0 : List Int) (A1 : Option Addr) (c1 : Nat) (l1 : List Int) (r : Bool) (w : World) (hr0 : Kd.C (Kd.int .i64) w A0 l0.length l0) (hc0 : l0.length ≤ c0) (hr1 : Kd.C (Kd.int .i64) w A1 l1.length l1) (hc1 : l1.length ≤ c1) (h : laws_wkInts.f k l0 l1 = some r) :
  Calls Try.prog 42 #[.slice A0 l0.length c0, .slice A1 l1.length c1] w fun e w' => e = .returned (.bool r) ∧ Drawn0 w w' := by
 have HR0 := Aside0.mk hr0
 have HC0 := Aside0.mk hc0
 clear hr0 hc0
 have HR1 := Aside0.mk hr1
 have HC1 := Aside0.mk hc1
 clear hr1 hc1
 have H : (if (l0.length : Int) = (l1.length : Int) then (laws_wkInts.l0 k l0 l1 0) else (some false)) = some r := h
 clear h
 by_cases c3 : (l0.length : Int) = (l1.length : Int)
 ·
  rw [if_pos c3] at H; obtain ⟨j9, ja⟩ := dq c3; have jb : (l0.length == l1.length) = true := by first | simpa using c3 | (simp at c3 ⊢; omega)
  clear c3; have H' := Aside0.mk H; clear H; go_enter Try.func42, Try.ntmps42; go_wp2
  go_loopg [5] k (fun kq v5 w' => ∃ (j0 : Int), v5 = .int .i64 j0 ∧ Aside0 (laws_wkInts.l0 kq l0 l1 j0 = some r) ∧ Aside0 (kq ≤ k) ∧ Drawn0 w w')
  case atStart => exact ⟨(0), ue, H', ⟨Nat.le_refl _⟩, by repeat (exact Drawn0.refl _)⟩
  case round =>
   clear H'
   clear j9 ja jb
   obtain ⟨j0, rfl, HA, HK1, ⟨m1, rfl⟩⟩ := hrel
   cases gk with
   | zero => exact absurd HA.out (by simp [laws_wkInts.l0])
   | succ k1 =>
    have H := HA.out; clear HA; simp only [laws_wkInts.l0] at H; by_cases c4 : j0 < (l0.length : Int)
    ·
     rw [if_pos c4] at H; have je := dl c4; clear c4; by_cases c5 : 0 ≤ j0
     ·
      rw [if_pos c5] at H; have jh := de c5; clear c5; by_cases c6 : j0 < (l1.length : Int)
      ·
       rw [if_pos c6] at H; have ji := dl c6; clear c6; by_cases c7 : (rd l0 j0) = (rd l1 j0)
       ·
        rw [if_pos c7] at H; obtain ⟨jf, jg⟩ := dq c7; clear c7; have H' := Aside0.mk H; clear H; have j1 : 0 ≤ (j0 : Int) := ua; have j2 : j0 < (l0.length : Int) := ua; obtain ⟨jc, j7, j5⟩ := Kd.at_int HR0.out j0 j1 j2
        cases j7
        replace j1 := eq_true j1; replace j2 := eq_true j2; have j3 : 0 ≤ (j0 : Int) := ua; have j4 : j0 < (l1.length : Int) := ua; obtain ⟨jd, j8, j6⟩ := Kd.at_int HR1.out j0 j3 j4
        cases j8
        replace j3 := eq_true j3; replace j4 := eq_true j4; go_wp2
        repeat (go_quiet (fail); try go_wp2)
        go_roundg k1
        case measure => have := HK1.out; omega
        case rel => exact ⟨(wrap64 (j0 + 1)), ue, H', ⟨by have := HK1.out; omega⟩, by repeat (first | exact Drawn0.refl _ | apply Drawn0.step)⟩
       ·
        rw [if_neg c7] at H; obtain ⟨jf, jg⟩ := dQ c7; obtain rfl := Option.some.inj H; have j1 : 0 ≤ (j0 : Int) := ua; have j2 : j0 < (l0.length : Int) := ua; obtain ⟨jc, j7, j5⟩ := Kd.at_int HR0.out j0 j1 j2
        cases j7
        replace j1 := eq_true j1; replace j2 := eq_true j2; have j3 : 0 ≤ (j0 : Int) := ua; have j4 : j0 < (l1.length : Int) := ua; obtain ⟨jd, j8, j6⟩ := Kd.at_int HR1.out j0 j3 j4
        cases j8
        replace j3 := eq_true j3; replace j4 := eq_true j4; go_wp2
        repeat (go_quiet (fail); try go_wp2)
        go_ret; exact ⟨by first | rfl | (simp; done) | (simp [*]; done), by repeat (first | exact Drawn0.refl _ | apply Drawn0.step)⟩
      ·
       rw [if_neg c6] at H; exact absurd H (by simp)
     ·
      rw [if_neg c5] at H; exact absurd H (by simp)
    ·
     rw [if_neg c4] at H; have je := DL c4; clear c4; obtain rfl := Option.some.inj H; go_wp2
     go_ret; exact ⟨by first | rfl | (simp; done) | (simp [*]; done), by repeat (first | exact Drawn0.refl _ | apply Drawn0.step)⟩
 ·
  rw [if_neg c3] at H; obtain ⟨j9, ja⟩ := dQ c3; have jb : (l0.length == l1.length) = false := by first | simpa using c3 | (simp at c3 ⊢; omega)
  obtain rfl := Option.some.inj H; go_enter Try.func42, Try.ntmps42; go_wp2
  go_ret; exact ⟨by first | rfl | (simp; done) | (simp [*]; done), by repeat (exact Drawn0.refl _)⟩

end Go.Proofs.Ytdlaaccnaokdnaa.P
namespace Go.Proofs.Ytdlaaccnaokdnaa.P
open Go.RowKit Go.Proofs.YtdlaaccnaokdnaaV.PrintWords Go.Proofs.YtdlaaccnaokdnaaV.PrintLast
set_option linter.unusedVariables false
set_option linter.unusedSimpArgs false

/-! ### laws_wkGrid: function 81 -/
def laws_wkGrid.l0 : Nat → List (List Int) → List (List Int) → Int → Option (Bool)
 | 0, _, _, _ => none
 | k + 1, x0, x1, x5 => if x5 < (x0.length : Int) then (if 0 ≤ x5 then (if x5 < (x1.length : Int) then ((laws_wkInts.f k (rd_L5 x0 x5) (rd_L5 x1 x5)).bind fun t103 => (if t103 = true then (laws_wkGrid.l0 k x0 x1 (wrap64 (x5 + 1))) else (some false))) else (none)) else (none)) else (some true)
def laws_wkGrid.f (k : Nat) (l0 : List (List Int)) (l1 : List (List Int)) : Option (Bool) := if (l0.length : Int) = (l1.length : Int) then (laws_wkGrid.l0 k l0 l1 0) else (some false)
set_option maxHeartbeats 8000000 in
set_option maxRecDepth 100000 in
theorem laws_wkGrid.calls (k : Nat) (A0 : Option Addr) (c0 : Nat) (l0 : List (List Int)) (A1 : Option Addr) (c1 : Nat) (l1 : List (List Int)) (r : Bool) (w : World) (hr0 : Kd.C (Kd.slice 3 (Kd.int .i64)) w A0 l0.length l0) (hc0 : l0.length ≤ c0) (hr1 : Kd.C (Kd.slice 3 (Kd.int .i64)) w A1 l1.length l1) (hc1 : l1.length ≤ c1) (h : laws_wkGrid.f k l0 l1 = some r) :
  Calls Try.prog 81 #[.slice A0 l0.length c0, .slice A1 l1.length c1] w fun e w' => e = .returned (.bool r) ∧ Drawn0 w w' := by
 have HR0 := Aside0.mk hr0
 have HC0 := Aside0.mk hc0
 clear hr0 hc0
 have HR1 := Aside0.mk hr1
 have HC1 := Aside0.mk hc1
 clear hr1 hc1
 have H : (if (l0.length : Int) = (l1.length : Int) then (laws_wkGrid.l0 k l0 l1 0) else (some false)) = some r := h
 clear h
 by_cases c3 : (l0.length : Int) = (l1.length : Int)
 ·
  rw [if_pos c3] at H; obtain ⟨jl, jm⟩ := dq c3; have jn : (l0.length == l1.length) = true := by first | simpa using c3 | (simp at c3 ⊢; omega)
  clear c3; have H' := Aside0.mk H; clear H; go_enter Try.func81, Try.ntmps81; go_wp2
  go_loopg [5] k (fun kq v5 w' => ∃ (j0 : Int), v5 = .int .i64 j0 ∧ Aside0 (laws_wkGrid.l0 kq l0 l1 j0 = some r) ∧ Aside0 (kq ≤ k) ∧ Drawn0 w w')
  case atStart => exact ⟨(0), ue, H', ⟨Nat.le_refl _⟩, by repeat (exact Drawn0.refl _)⟩
  case round =>
   clear H'
   clear jl jm jn
   obtain ⟨j0, rfl, HA, HK1, ⟨m1, rfl⟩⟩ := hrel
   cases gk with
   | zero => exact absurd HA.out (by simp [laws_wkGrid.l0])
   | succ k1 =>
    have H := HA.out; clear HA; simp only [laws_wkGrid.l0] at H; by_cases c4 : j0 < (l0.length : Int)
    ·
     rw [if_pos c4] at H; have jr := dl c4; clear c4; by_cases c5 : 0 ≤ j0
     ·
      rw [if_pos c5] at H; have js := de c5; clear c5; by_cases c6 : j0 < (l1.length : Int)
      ·
       rw [if_pos c6] at H; have jt := dl c6; clear c6; replace H := Option.bind_eq_some_iff.mp H; obtain ⟨jo, A70, H⟩ := H; replace H : (if jo = true then (laws_wkGrid.l0 k1 l0 l1 (wrap64 (j0 + 1))) else (some false)) = some r := H; have A7 := Aside0.mk A70; clear A70; by_cases c8 : jo = true
       ·
        subst c8; rw [if_pos rfl] at H; have H' := Aside0.mk H; clear H; have j9 : 0 ≤ (j0 : Int) := ua; have ja : j0 < (l0.length : Int) := ua; obtain ⟨jp, jf, jg, jh, jd, j1, j2⟩ := at_L5 HR0.out j0 j9 ja
        cases jh
        have j5 := Aside0.mk j2; have j6 := Aside0.mk j1; clear j2 j1; replace j9 := eq_true j9; replace ja := eq_true ja; have jb : 0 ≤ (j0 : Int) := ua; have jc : j0 < (l1.length : Int) := ua; obtain ⟨jq, ji, jj, jk, je, j3, j4⟩ := at_L5 HR1.out j0 jb jc
        cases jk
        have j7 := Aside0.mk j4; have j8 := Aside0.mk j3; clear j4 j3; replace jb := eq_true jb; replace jc := eq_true jc; go_wp2_with (fail)
        repeat (go_quiet ((go_at_call 42; (with_reducible refine (laws_wkInts.calls k1 _ _ (rd_L5 l0 j0) _ _ (rd_L5 l1 j0) true _ ?side1 ?side2 ?side3 ?side4 A7.out).mono ?_); (case side1 => repeat (exact j5.out)); (case side2 => exact j6.out); (case side3 => repeat (exact j7.out)); (case side4 => exact j8.out); rintro e w' ⟨rfl, ⟨nd, rfl⟩⟩; (try first | exact ⟨rfl, _, World.drewN_drewN _ _ _⟩ | exact ⟨rfl, _, Eq.trans (World.drewN_drewN _ _ _) (congrArg (World.drewN _) (Nat.add_assoc _ _ _))⟩))); try go_wp2_with (fail))
        go_roundg k1
        case measure => have := HK1.out; omega
        case rel => exact ⟨(wrap64 (j0 + 1)), ue, H', ⟨by have := HK1.out; omega⟩, by repeat (first | exact Drawn0.refl _ | apply Drawn0.step)⟩
       ·
        replace c8 := Bool.eq_false_iff.mpr c8; subst c8; rw [if_neg (show ¬ (false = true) by decide)] at H; obtain rfl := Option.some.inj H; have j9 : 0 ≤ (j0 : Int) := ua; have ja : j0 < (l0.length : Int) := ua; obtain ⟨jp, jf, jg, jh, jd, j1, j2⟩ := at_L5 HR0.out j0 j9 ja
        cases jh
        have j5 := Aside0.mk j2; have j6 := Aside0.mk j1; clear j2 j1; replace j9 := eq_true j9; replace ja := eq_true ja; have jb : 0 ≤ (j0 : Int) := ua; have jc : j0 < (l1.length : Int) := ua; obtain ⟨jq, ji, jj, jk, je, j3, j4⟩ := at_L5 HR1.out j0 jb jc
        cases jk
        have j7 := Aside0.mk j4; have j8 := Aside0.mk j3; clear j4 j3; replace jb := eq_true jb; replace jc := eq_true jc; go_wp2_with (fail)
        repeat (go_quiet ((go_at_call 42; (with_reducible refine (laws_wkInts.calls k1 _ _ (rd_L5 l0 j0) _ _ (rd_L5 l1 j0) false _ ?side1 ?side2 ?side3 ?side4 A7.out).mono ?_); (case side1 => repeat (exact j5.out)); (case side2 => exact j6.out); (case side3 => repeat (exact j7.out)); (case side4 => exact j8.out); rintro e w' ⟨rfl, ⟨nd, rfl⟩⟩; (try first | exact ⟨rfl, _, World.drewN_drewN _ _ _⟩ | exact ⟨rfl, _, Eq.trans (World.drewN_drewN _ _ _) (congrArg (World.drewN _) (Nat.add_assoc _ _ _))⟩))); try go_wp2_with (fail))
        go_ret; exact ⟨by first | rfl | (simp; done) | (simp [*]; done), by repeat (first | exact Drawn0.refl _ | apply Drawn0.step)⟩
      ·
       rw [if_neg c6] at H; exact absurd H (by simp)
     ·
      rw [if_neg c5] at H; exact absurd H (by simp)
    ·
     rw [if_neg c4] at H; have jr := DL c4; clear c4; obtain rfl := Option.some.inj H; go_wp2
     go_ret; exact ⟨by first | rfl | (simp; done) | (simp [*]; done), by repeat (first | exact Drawn0.refl _ | apply Drawn0.step)⟩
 ·
  rw [if_neg c3] at H; obtain ⟨jl, jm⟩ := dQ c3; have jn : (l0.length == l1.length) = false := by first | simpa using c3 | (simp at c3 ⊢; omega)
  obtain rfl := Option.some.inj H; go_enter Try.func81, Try.ntmps81; go_wp2
  go_ret; exact ⟨by first | rfl | (simp; done) | (simp [*]; done), by repeat (exact Drawn0.refl _)⟩

end Go.Proofs.Ytdlaaccnaokdnaa.P
