-- written for this claim by a program (wip/gen/myprint.py over the print tool). Not trusted: Lean checks it.
import Derived.Test.YtdlaaccnaokdnaaPx0
import Derived.Test.YtdlaaccnaokdnaaHUp
import Derived.Test.YtdlaaccnaokdnaaGLaws
import Derived.Test.YtdlaaccnaokdnaaPFLawsTointss
import Derived.Test.YtdlaaccnaokdnaaGSS
namespace Go.Proofs.Ytdlaaccnaokdnaa.P
open Go.RowKit Go.Proofs.YtdlaaccnaokdnaaV.PrintWords Go.Proofs.YtdlaaccnaokdnaaV.PrintLast
set_option linter.unusedVariables false
set_option linter.unusedSimpArgs false

/-! ### laws_toRank: function 18 -/
def laws_toRank.f (k : Nat) (l0_0 : List Int) (l0_1 : List (List Int)) (l0_2 : List (List Int)) : Option (List Int × (List (List Int)) × (List (List Int))) := (laws_toIntS.f k l0_0).bind fun t104 => ((laws_toIntSS.f k l0_1).bind fun t107 => ((laws_toIntSS.f k l0_2).bind fun t110 => (some (t104, t107, t110))))
set_option maxHeartbeats 8000000 in
set_option maxRecDepth 100000 in
theorem laws_toRank.calls (k : Nat) (A0_0 : Option Addr) (c0_0 : Nat) (l0_0 : List Int) (A0_1 : Option Addr) (c0_1 : Nat) (l0_1 : List (List Int)) (A0_2 : Option Addr) (c0_2 : Nat) (l0_2 : List (List Int)) (r1 : List Int) (r2 : List (List Int)) (r3 : List (List Int)) (w : World) (hr0_0 : Kd.C (Kd.int .i64) w A0_0 l0_0.length l0_0) (hc0_0 : l0_0.length ≤ c0_0) (hr0_1 : Kd.C (Kd.slice 3 (Kd.int .i64)) w A0_1 l0_1.length l0_1) (hc0_1 : l0_1.length ≤ c0_1) (hr0_2 : Kd.C (Kd.slice 3 (Kd.int .i64)) w A0_2 l0_2.length l0_2) (hc0_2 : l0_2.length ≤ c0_2) (h : laws_toRank.f k l0_0 l0_1 l0_2 = some (r1, r2, r3)) :
  Calls Try.prog 18 #[.agg #[.slice A0_0 l0_0.length c0_0, .slice A0_1 l0_1.length c0_1, .slice A0_2 l0_2.length c0_2]] w fun e w' => ∃ v0_ v1_ v2_ : Value, e = .returned (.agg #[v0_, v1_, v2_]) ∧ Kd.R (Kd.int .i64) 3 w' w.heap.size (fun _ => True) v0_ r1 ∧ Kd.S (Kd.slice 3 (Kd.int .i64)) 25 w' w.heap.size (fun k_ => some k_ ≠ (v0_ : Value).ownBlock ∧ some k_ ≠ (v2_ : Value).ownBlock) v1_ r2 ∧ Kd.S (Kd.slice 3 (Kd.int .i64)) 25 w' w.heap.size (fun k_ => some k_ ≠ (v0_ : Value).ownBlock ∧ some k_ ≠ (v1_ : Value).ownBlock) v2_ r3 ∧ Below w.heap.size w w' := by
 have hu28 := Try.underlying28
 have hu37 := Try.underlying37
 have jr := Aside0.mk hr0_0
 have js := Aside0.mk hc0_0
 clear hr0_0 hc0_0
 have jt := Aside0.mk hr0_1
 have ju := Aside0.mk hc0_1
 clear hr0_1 hc0_1
 have jv := Aside0.mk hr0_2
 have jw := Aside0.mk hc0_2
 clear hr0_2 hc0_2
 have HB := Aside0.mk (Below.refl w.heap.size w)
 have H : ((laws_toIntS.f k l0_0).bind fun j6 => ((laws_toIntSS.f k l0_1).bind fun j7 => ((laws_toIntSS.f k l0_2).bind fun ja => (some (j6, j7, ja))))) = some (r1, r2, r3) := h
 clear h
 replace H := Option.bind_eq_some_iff.mp H
 obtain ⟨j6, A20, H⟩ := H
 replace H : ((laws_toIntSS.f k l0_1).bind fun j7 => ((laws_toIntSS.f k l0_2).bind fun ja => (some (j6, j7, ja)))) = some (r1, r2, r3) := H
 have A2 := Aside0.mk A20
 clear A20
 replace H := Option.bind_eq_some_iff.mp H
 obtain ⟨j7, A30, H⟩ := H
 replace H : ((laws_toIntSS.f k l0_2).bind fun ja => (some (j6, j7, ja))) = some (r1, r2, r3) := H
 have A3 := Aside0.mk A30
 clear A30
 replace H := Option.bind_eq_some_iff.mp H
 obtain ⟨ja, A40, H⟩ := H
 replace H : (some (j6, j7, ja)) = some (r1, r2, r3) := H
 have A4 := Aside0.mk A40
 clear A40
 simp only [Option.some.injEq, Prod.mk.injEq] at H
 obtain ⟨rfl, rfl, rfl⟩ := H
 go_enter Try.func18, Try.ntmps18
 go_wp2_with (first | ((with_reducible refine gate_dst (N := 1) rfl ?_); refine be (cs := #[.slice A0_0 l0_0.length c0_0, .slice A0_1 l0_1.length c0_1, .slice A0_2 l0_2.length c0_2]) (t := 28) ?_; intro jp hg w5 hbox hb; have j1 := Aside0.mk (hbox); have j0g := gz w hg (uB0 HB); have j2 := gz w hg (uB0 HB); replace HB := Aside0.mk (below_step (uB0 HB) hb); clear hb hbox hg) | ((with_reducible refine gate_dst (N := 2) rfl ?_); refine be (cs := #[.slice none 0 0, .slice none 0 0, .slice none 0 0]) (t := 37) ?_; intro j4 hg w6 hbox hb; have j3 := Aside0.mk (hbox); have j0h := gz w hg (uB1 HB j2.out); have j5 := gz w hg (uB1 HB j2.out); replace HB := Aside0.mk (below_step (uB1 HB j2.out) hb); have jl := gl hg j1; have jm := gr hg j1; replace j1 := bb j1 hb; clear hb hbox hg) | ((with_reducible refine gate_dst (N := 3) rfl ?_); refine be (cs := #[.slice none 0 0, .slice none 0 0, .slice none 0 0]) (t := 37) ?_; intro j8 hg w7 hbox hb; have j0 := Aside0.mk (hbox); have j0i := gz w hg (uB2 HB j2.out j5.out); have jb := gz w hg (uB2 HB j2.out j5.out); replace HB := Aside0.mk (below_step (uB2 HB j2.out j5.out) hb); have jc := gl hg j1; have jn := gr hg j1; replace j1 := bb j1 hb; have j9 := gl hg j3; have jo := gr hg j3; replace j3 := bb j3 hb; clear hb hbox hg; have j0l := jl.out; have j0m := jm.out; have j0n := jc.out; have j0o := jn.out; obtain ⟨jx, jy, jz, jA, jB, jC⟩ := bc3 j1) | ((with_reducible refine gate_callee (f := 30) rfl ?_); refine goesL_ (some 6) rfl rfl Try.func30 (by kernel_rfl) rfl #[.slice A0_0 l0_0.length c0_0] rfl ul ?_; (with_reducible refine (laws_toIntS.calls k _ _ l0_0 j6 _ ?side1 ?side2 A2.out).mono ?_); (case side1 => exact uC jr HB); (case side2 => exact js.out); rintro e w11 ⟨v105, rfl, ho0, hb⟩; refine ⟨_, rfl, ?_⟩; have jd := Aside0.mk (Kd.R_lower ho0 (below_size (uB3 HB j2.out j5.out jb.out))); replace j1 := bb j1 hb; replace j3 := bb j3 hb; replace j0 := bb j0 hb; replace HB := Aside0.mk (below_step (uB3 HB j2.out j5.out jb.out) hb); (try clear hb); (try clear hb2); (try clear hk); (try clear hi); (try clear ho0); obtain ⟨je, jf, j0d⟩ := Kd.R_slice jd.out; subst j0d; have j0j := jo.out; have j0k := j9.out; obtain ⟨jD, jE, jF, jG, jH, jI⟩ := bc3 j0; obtain ⟨jJ, jK, jL, jM, jN, jO⟩ := bc3 j1) | ((with_reducible refine gate_callee (f := 55) rfl ?_); refine goesL_ (some 10) rfl rfl Try.func55 (by kernel_rfl) rfl #[.slice A0_1 l0_1.length c0_1] rfl ul ?_; (with_reducible refine (laws_toIntSS.calls k _ _ l0_1 j7 _ ?side1 ?side2 A3.out).mono ?_); (case side1 => exact Kd.C_below jt.out (uB3 HB j2.out j5.out jb.out)); (case side2 => exact ju.out); rintro e w16 ⟨v108, rfl, ho0, hb⟩; refine ⟨_, rfl, ?_⟩; have ji := Aside0.mk (Kd.S_lower (Kd.S_new' ho0 (Kd.R_lt (by (with_reducible repeat (first | apply Kd.R_alloc | apply Kd.R_drewN | apply Kd.R_drew)); exact (Kd.R_mono (Kd.R_far (p := ⟨j8, 0, none⟩) (Kd.R_types jd.out j0.out (by decide)) (fun _ hk => hk.2) (.slice je j6.length jf)) (fun _ h_ => h_.1))))) (below_size (uB3 HB j2.out j5.out jb.out))); replace jd := Aside0.mk (Kd.R_below (by (with_reducible repeat (first | apply Kd.R_alloc | apply Kd.R_drewN | apply Kd.R_drew)); exact (Kd.R_mono (Kd.R_far (p := ⟨j8, 0, none⟩) (Kd.R_types jd.out j0.out (by decide)) (fun _ hk => hk.2) (.slice je j6.length jf)) (fun _ h_ => h_.1))) hb); replace j1 := Aside0.mk (blk_below (g := jp) (o := .cells #[.slice A0_0 l0_0.length c0_0, .slice A0_1 l0_1.length c0_1, .slice A0_2 l0_2.length c0_2] 28 (0, 0)) (by (with_reducible repeat first | apply zbn | apply zbd | apply zba); refine blk_far ?_ jc.out _; exact ub j1) hb); replace j3 := Aside0.mk (blk_below (g := j4) (o := .cells #[.slice none 0 0, .slice none 0 0, .slice none 0 0] 37 (0, 0)) (by (with_reducible repeat first | apply zbn | apply zbd | apply zba); refine blk_far ?_ j9.out _; exact ub j3) hb); replace j0 := Aside0.mk (blk_below (g := j8) (o := .cells #[.slice je j6.length jf, .slice none 0 0, .slice none 0 0] 37 (0, 0)) (by (with_reducible repeat first | apply zbn | apply zbd | apply zba); refine blk_put (cs := #[.slice none 0 0, .slice none 0 0, .slice none 0 0]) ?_ 0 _ rfl; exact ub j0) hb); replace HB := Aside0.mk (below_step (uB3 HB j2.out j5.out jb.out) hb); (try clear hb); (try clear hb2); (try clear hk); (try clear hi); (try clear ho0); obtain ⟨jg, jh, j0e⟩ := Kd.S_slice ji.out; subst j0e; obtain ⟨jP, jQ, jR, jS, jT, jU⟩ := bc3 j0; obtain ⟨jV, jW, jX, jY, jZ, j00⟩ := bc3 j1) | ((with_reducible refine gate_callee (f := 55) rfl ?_); refine goesL_ (some 14) rfl rfl Try.func55 (by kernel_rfl) rfl #[.slice A0_2 l0_2.length c0_2] rfl ul ?_; (with_reducible refine (laws_toIntSS.calls k _ _ l0_2 ja _ ?side1 ?side2 A4.out).mono ?_); (case side1 => exact Kd.C_below jv.out (uB3 HB j2.out j5.out jb.out)); (case side2 => exact jw.out); rintro e w20 ⟨v111, rfl, ho0, hb⟩; refine ⟨_, rfl, ?_⟩; have jq := Aside0.mk (Kd.S_lower (Kd.S_new' (Kd.S_new' ho0 (Kd.R_lt (by (with_reducible repeat (first | apply Kd.R_alloc | apply Kd.R_drewN | apply Kd.R_drew)); exact (Kd.R_mono (Kd.R_far (p := ⟨j8, 1, none⟩) (Kd.R_types jd.out j0.out (by decide)) (fun _ hk => hk.2) (.slice jg j7.length jh)) (fun _ h_ => h_.1))))) (Kd.S_lt (by (with_reducible repeat (first | apply Kd.S_alloc | apply Kd.S_drewN | apply Kd.S_drew)); exact (Kd.S_mono (Kd.S_far (p := ⟨j8, 1, none⟩) (Kd.S_types ji.out j0.out (by decide)) (fun _ hk => hk.2) (.slice jg j7.length jh)) (fun _ h_ => h_.1))))) (below_size (uB3 HB j2.out j5.out jb.out))); replace jd := Aside0.mk (Kd.R_below (by (with_reducible repeat (first | apply Kd.R_alloc | apply Kd.R_drewN | apply Kd.R_drew)); exact (Kd.R_mono (Kd.R_far (p := ⟨j8, 1, none⟩) (Kd.R_types jd.out j0.out (by decide)) (fun _ hk => hk.2) (.slice jg j7.length jh)) (fun _ h_ => h_.1))) hb); replace ji := Aside0.mk (Kd.S_elder' (by (with_reducible repeat (first | apply Kd.S_alloc | apply Kd.S_drewN | apply Kd.S_drew)); exact (Kd.S_mono (Kd.S_far (p := ⟨j8, 1, none⟩) (Kd.S_types ji.out j0.out (by decide)) (fun _ hk => hk.2) (.slice jg j7.length jh)) (fun _ h_ => h_.1))) (Kd.S_base ho0) hb); replace j1 := Aside0.mk (blk_below (g := jp) (o := .cells #[.slice A0_0 l0_0.length c0_0, .slice A0_1 l0_1.length c0_1, .slice A0_2 l0_2.length c0_2] 28 (0, 0)) (by (with_reducible repeat first | apply zbn | apply zbd | apply zba); refine blk_far ?_ jc.out _; exact ub j1) hb); replace j3 := Aside0.mk (blk_below (g := j4) (o := .cells #[.slice none 0 0, .slice none 0 0, .slice none 0 0] 37 (0, 0)) (by (with_reducible repeat first | apply zbn | apply zbd | apply zba); refine blk_far ?_ j9.out _; exact ub j3) hb); replace j0 := Aside0.mk (blk_below (g := j8) (o := .cells #[.slice je j6.length jf, .slice jg j7.length jh, .slice none 0 0] 37 (0, 0)) (by (with_reducible repeat first | apply zbn | apply zbd | apply zba); refine blk_put (cs := #[.slice je j6.length jf, .slice none 0 0, .slice none 0 0]) ?_ 1 _ rfl; exact ub j0) hb); replace HB := Aside0.mk (below_step (uB3 HB j2.out j5.out jb.out) hb); (try clear hb); (try clear hb2); (try clear hk); (try clear hi); (try clear ho0); obtain ⟨jj, jk, j0f⟩ := Kd.S_slice jq.out; subst j0f; obtain ⟨j01, j02, j03, j04, j05, j06⟩ := bc3 j0; obtain ⟨j07, j08, j09, j0a, j0b, j0c⟩ := bc3 j3))
 refine bodyPost_ret (results_cell_row rfl _ _ j4 37 #[.slice je j6.length jf, .slice jg j7.length jh, .slice jj ja.length jk] (0, 0) _ rfl (by (with_reducible repeat first | apply zbn | apply zbd | apply zba); refine blk_put (cs := #[.slice je j6.length jf, .slice jg j7.length jh, .slice none 0 0]) ?_ 2 _ rfl; (with_reducible repeat first | apply zbn | apply zbd | apply zba); refine blk_put (cs := #[.slice je j6.length jf, .slice none 0 0, .slice none 0 0]) ?_ 1 _ rfl; (with_reducible repeat first | apply zbn | apply zbd | apply zba); refine blk_put (cs := #[.slice none 0 0, .slice none 0 0, .slice none 0 0]) ?_ 0 _ rfl; (with_reducible repeat first | apply zbn | apply zbd | apply zba); refine blk_far ?_ j9.out _; exact ub j3) Try.underlying37 rfl (by kernel_rfl)) rfl ?_
 exact ⟨_, _, _, by first | rfl | (simp [errW_none, errW_some] <;> rfl) | (simp [*, errW_none, errW_some] <;> rfl), by (with_reducible repeat (first | apply Kd.R_alloc | apply Kd.R_drewN | apply Kd.R_drew)); exact Kd.R_mono (Kd.R_far (p := ⟨j4, 2, none⟩) (Kd.R_far (p := ⟨j4, 1, none⟩) (Kd.R_far (p := ⟨j4, 0, none⟩) (Kd.R_far (p := ⟨j8, 2, none⟩) (Kd.R_types (Kd.R_types jd.out j0.out (by decide)) j3.out (by decide)) (fun _ hk => hk.1.2) (.slice jj ja.length jk)) (fun _ hk => hk.2) (.slice je j6.length jf)) (fun _ hk => hk.2) (.slice jg j7.length jh)) (fun _ hk => hk.2) (.slice jj ja.length jk)) (fun _ hk => trivial), by (with_reducible repeat (first | apply Kd.S_alloc | apply Kd.S_drewN | apply Kd.S_drew)); exact Kd.S_mono (Kd.S_far (p := ⟨j4, 2, none⟩) (Kd.S_far (p := ⟨j4, 1, none⟩) (Kd.S_far (p := ⟨j4, 0, none⟩) (Kd.S_far (p := ⟨j8, 2, none⟩) (Kd.S_types (Kd.S_types ji.out j0.out (by decide)) j3.out (by decide)) (fun _ hk => hk.1.2) (.slice jj ja.length jk)) (fun _ hk => hk.2) (.slice je j6.length jf)) (fun _ hk => hk.2) (.slice jg j7.length jh)) (fun _ hk => hk.2) (.slice jj ja.length jk)) (fun _ hk => ⟨hk.1.1.1.2, hk.1.1.2⟩), by (with_reducible repeat (first | apply Kd.S_alloc | apply Kd.S_drewN | apply Kd.S_drew)); exact Kd.S_mono (Kd.S_far (p := ⟨j4, 2, none⟩) (Kd.S_far (p := ⟨j4, 1, none⟩) (Kd.S_far (p := ⟨j4, 0, none⟩) (Kd.S_far (p := ⟨j8, 2, none⟩) (Kd.S_types (Kd.S_types jq.out j0.out (by decide)) j3.out (by decide)) (fun _ hk => hk.1.2) (.slice jj ja.length jk)) (fun _ hk => hk.2) (.slice je j6.length jf)) (fun _ hk => hk.2) (.slice jg j7.length jh)) (fun _ hk => hk.2) (.slice jj ja.length jk)) (fun _ hk => ⟨hk.1.1.1.2, hk.1.1.2⟩), uB3 HB j2.out j5.out jb.out⟩

end Go.Proofs.Ytdlaaccnaokdnaa.P
namespace Go.Proofs.Ytdlaaccnaokdnaa.P
open Go.RowKit Go.Proofs.YtdlaaccnaokdnaaV.PrintWords Go.Proofs.YtdlaaccnaokdnaaV.PrintLast
set_option linter.unusedVariables false
set_option linter.unusedSimpArgs false

/-! ### laws_szIntS: function 50 -/
def laws_szIntS.f (l0 : List Int) (a1 : Int) : Option (Int) := if (wrap64 (a1 - (l0.length : Int))) < 0 then (some (-1)) else (some (wrap64 (a1 - (l0.length : Int))))
set_option maxHeartbeats 8000000 in
set_option maxRecDepth 100000 in
theorem laws_szIntS.calls (A0 : Option Addr) (c0 : Nat) (l0 : List Int) (a1 : Int) (r : Int) (w : World) (hr0 : Kd.C (Kd.int .i64) w A0 l0.length l0) (hc0 : l0.length ≤ c0) (h : laws_szIntS.f l0 a1 = some r) :
  Calls Try.prog 50 #[.slice A0 l0.length c0, .int .i64 a1] w fun e w' => e = .returned (.int .i64 r) ∧ Drawn0 w w' := by
 have HR0 := Aside0.mk hr0
 have HC0 := Aside0.mk hc0
 clear hr0 hc0
 have H : (if (wrap64 (a1 - (l0.length : Int))) < 0 then (some (-1)) else (some (wrap64 (a1 - (l0.length : Int))))) = some r := h
 clear h
 by_cases c3 : (wrap64 (a1 - (l0.length : Int))) < 0
 ·
  rw [if_pos c3] at H; have c3b0 := dl c3; clear c3; obtain rfl := Option.some.inj H; go_enter Try.func50, Try.ntmps50; go_wp2; go_ret; exact ⟨by first | rfl | (simp; done) | (simp [*]; done), by repeat (first | exact Drawn0.refl _ | apply Drawn0.step)⟩
 ·
  rw [if_neg c3] at H; have c3b0 := DL c3; clear c3; obtain rfl := Option.some.inj H; go_enter Try.func50, Try.ntmps50; go_wp2; go_ret; exact ⟨by first | rfl | (simp; done) | (simp [*]; done), by repeat (first | exact Drawn0.refl _ | apply Drawn0.step)⟩

end Go.Proofs.Ytdlaaccnaokdnaa.P
namespace Go.Proofs.Ytdlaaccnaokdnaa.P
open Go.RowKit Go.Proofs.YtdlaaccnaokdnaaV.PrintWords Go.Proofs.YtdlaaccnaokdnaaV.PrintLast
set_option linter.unusedVariables false
set_option linter.unusedSimpArgs false

/-! ### laws_szIntSS: function 51 -/
def laws_szIntSS.l0 : Nat → List (List Int) → Int → Int → Option (Int)
 | 0, _, _, _ => none
 | k + 1, x0, x1, x5 => if x5 < (x0.length : Int) then (if 0 ≤ x5 then ((laws_szIntS.f (rd_L5 x0 x5) x1).bind fun t102 => (if t102 < 0 then (some (-1)) else (laws_szIntSS.l0 k x0 t102 (wrap64 (x5 + 1))))) else (none)) else (some x1)
def laws_szIntSS.f (k : Nat) (l0 : List (List Int)) (a1 : Int) : Option (Int) := if (wrap64 (a1 - (l0.length : Int))) < 0 then (some (-1)) else (laws_szIntSS.l0 k l0 (wrap64 (a1 - (l0.length : Int))) 0)
set_option maxHeartbeats 8000000 in
set_option maxRecDepth 100000 in
theorem laws_szIntSS.calls (k : Nat) (A0 : Option Addr) (c0 : Nat) (l0 : List (List Int)) (a1 : Int) (r : Int) (w : World) (hr0 : Kd.C (Kd.slice 3 (Kd.int .i64)) w A0 l0.length l0) (hc0 : l0.length ≤ c0) (h : laws_szIntSS.f k l0 a1 = some r) :
  Calls Try.prog 51 #[.slice A0 l0.length c0, .int .i64 a1] w fun e w' => e = .returned (.int .i64 r) ∧ Drawn0 w w' := by
 have HR0 := Aside0.mk hr0
 have HC0 := Aside0.mk hc0
 clear hr0 hc0
 have H : (if (wrap64 (a1 - (l0.length : Int))) < 0 then (some (-1)) else (laws_szIntSS.l0 k l0 (wrap64 (a1 - (l0.length : Int))) 0)) = some r := h
 clear h
 by_cases c3 : (wrap64 (a1 - (l0.length : Int))) < 0
 ·
  rw [if_pos c3] at H; have c3b0 := dl c3; clear c3; obtain rfl := Option.some.inj H; go_enter Try.func51, Try.ntmps51; go_wp2; go_ret; exact ⟨by first | rfl | (simp; done) | (simp [*]; done), by repeat (first | exact Drawn0.refl _ | apply Drawn0.step)⟩
 ·
  rw [if_neg c3] at H; have c3b0 := DL c3; clear c3; have H' := Aside0.mk H; clear H; go_enter Try.func51, Try.ntmps51; go_wp2; go_loopg [1, 5] k (fun kq v1 v5 w' => ∃ (x1_1 : Int) (x5_1 : Int), v1 = .int .i64 x1_1 ∧ v5 = .int .i64 x5_1 ∧ Aside0 (laws_szIntSS.l0 kq l0 x1_1 x5_1 = some r) ∧ Aside0 (kq ≤ k) ∧ Drawn0 w w')
  case atStart => exact ⟨(wrap64 (a1 - (l0.length : Int))), (0), ue, ue, H', ⟨Nat.le_refl _⟩, by repeat (first | exact Drawn0.refl _ | apply Drawn0.step)⟩
  case round =>
   clear H'; try clear p2
   (try clear c3); (try clear c3b0)
   obtain ⟨x1_1, x5_1, rfl, rfl, HA, HK1, ⟨m1, rfl⟩⟩ := hrel
   cases gk with
   | zero => exact absurd HA.out (by simp [laws_szIntSS.l0])
   | succ k1 =>
    have H := HA.out; clear HA; simp only [laws_szIntSS.l0] at H; by_cases c4 : x5_1 < (l0.length : Int)
    ·
     rw [if_pos c4] at H; have c4b0 := dl c4; clear c4; by_cases c5 : 0 ≤ x5_1
     ·
      rw [if_pos c5] at H; have c5b0 := de c5; clear c5; replace H := Option.bind_eq_some_iff.mp H; obtain ⟨t102, A60, H⟩ := H; replace H : (if t102 < 0 then (some (-1)) else (laws_szIntSS.l0 k1 l0 t102 (wrap64 (x5_1 + 1)))) = some r := H; have A6 := Aside0.mk A60; clear A60; have HH_ := Aside0.mk H; clear H; have p101 : 0 ≤ (x5_1 : Int) := ua; have q101 : x5_1 < (l0.length : Int) := ua; obtain ⟨ad101, A101_0, c101_0, e101, hx101_0, hl101_0, hi101_0⟩ := at_L5 HR0.out x5_1 p101 q101
      cases e101
      have HR101_0 := Aside0.mk hi101_0; have HC101_0 := Aside0.mk hl101_0; clear hi101_0 hl101_0; replace p101 := eq_true p101; replace q101 := eq_true q101; go_upto_region 8 with (first | ((with_reducible refine gate_callee (f := 50) rfl ?_); refine goesL_ (some 23) rfl rfl Try.func50 (by kernel_rfl) rfl #[.slice A101_0 (rd_L5 l0 x5_1).length c101_0, .int .i64 x1_1] rfl ul ?_; (with_reducible refine (laws_szIntS.calls _ _ (rd_L5 l0 x5_1) x1_1 t102 _ ?side1 ?side2 A6.out).mono ?_); (case side1 => repeat (first | exact HR101_0.out | (with_reducible refine Kd.C_alloc ?_ _) | (with_reducible refine Kd.C_drewN ?_ _) | (with_reducible refine Kd.C_drew ?_))); (case side2 => exact HC101_0.out); rintro e w' ⟨rfl, ⟨nd, rfl⟩⟩; refine ⟨_, rfl, ?_⟩))
      have H := HH_.out; clear HH_; by_cases c7 : t102 < 0
      ·
       rw [if_pos c7] at H; have c7b0 := dl c7; clear c7; obtain rfl := Option.some.inj H; go_wp2; go_ret; exact ⟨by first | rfl | (simp; done) | (simp [*]; done), by repeat (first | exact Drawn0.refl _ | apply Drawn0.step)⟩
      ·
       rw [if_neg c7] at H; have c7b0 := DL c7; clear c7; have H' := Aside0.mk H; clear H; go_wp2; go_roundg k1
       case measure => have := HK1.out; omega
       case rel => exact ⟨(t102), (wrap64 (x5_1 + 1)), ue, ue, H', ⟨by have := HK1.out; omega⟩, by repeat (first | exact Drawn0.refl _ | apply Drawn0.step)⟩
     ·
      rw [if_neg c5] at H; exact absurd H (by simp)
    ·
     rw [if_neg c4] at H; have c4b0 := DL c4; clear c4; obtain rfl := Option.some.inj H; go_wp2; go_ret; exact ⟨by first | rfl | (simp; done) | (simp [*]; done), by repeat (first | exact Drawn0.refl _ | apply Drawn0.step)⟩

end Go.Proofs.Ytdlaaccnaokdnaa.P
namespace Go.Proofs.Ytdlaaccnaokdnaa.P
open Go.RowKit Go.Proofs.YtdlaaccnaokdnaaV.PrintWords Go.Proofs.YtdlaaccnaokdnaaV.PrintLast
set_option linter.unusedVariables false
set_option linter.unusedSimpArgs false

/-! ### laws_szRank: function 15 -/
def laws_szRank.f (k : Nat) (l0_0 : List Int) (l0_1 : List (List Int)) (l0_2 : List (List Int)) (a1 : Int) : Option (Int) := (laws_szIntS.f l0_0 a1).bind fun t102 => (if t102 < 0 then (some (-1)) else ((laws_szIntSS.f k l0_1 t102).bind fun t103 => (if t103 < 0 then (some (-1)) else ((laws_szIntSS.f k l0_2 t103).bind fun t104 => (if t104 < 0 then (some (-1)) else (some t104))))))
set_option maxHeartbeats 8000000 in
set_option maxRecDepth 100000 in
theorem laws_szRank.calls (k : Nat) (A0_0 : Option Addr) (c0_0 : Nat) (l0_0 : List Int) (A0_1 : Option Addr) (c0_1 : Nat) (l0_1 : List (List Int)) (A0_2 : Option Addr) (c0_2 : Nat) (l0_2 : List (List Int)) (a1 : Int) (r : Int) (w : World) (hr0_0 : Kd.C (Kd.int .i64) w A0_0 l0_0.length l0_0) (hc0_0 : l0_0.length ≤ c0_0) (hr0_1 : Kd.C (Kd.slice 3 (Kd.int .i64)) w A0_1 l0_1.length l0_1) (hc0_1 : l0_1.length ≤ c0_1) (hr0_2 : Kd.C (Kd.slice 3 (Kd.int .i64)) w A0_2 l0_2.length l0_2) (hc0_2 : l0_2.length ≤ c0_2) (h : laws_szRank.f k l0_0 l0_1 l0_2 a1 = some r) :
  Calls Try.prog 15 #[.agg #[.slice A0_0 l0_0.length c0_0, .slice A0_1 l0_1.length c0_1, .slice A0_2 l0_2.length c0_2], .int .i64 a1] w fun e w' => e = .returned (.int .i64 r) ∧ Below w.heap.size w w' := by
 have hu28 := Try.underlying28
 have j4 := Aside0.mk hr0_0
 have j5 := Aside0.mk hc0_0
 clear hr0_0 hc0_0
 have j6 := Aside0.mk hr0_1
 have j7 := Aside0.mk hc0_1
 clear hr0_1 hc0_1
 have j8 := Aside0.mk hr0_2
 have j9 := Aside0.mk hc0_2
 clear hr0_2 hc0_2
 have HB := Aside0.mk (Below.refl w.heap.size w)
 have H : ((laws_szIntS.f l0_0 a1).bind fun j3 => (if j3 < 0 then (some (-1)) else ((laws_szIntSS.f k l0_1 j3).bind fun j1 => (if j1 < 0 then (some (-1)) else ((laws_szIntSS.f k l0_2 j1).bind fun j0 => (if j0 < 0 then (some (-1)) else (some j0))))))) = some r := h
 clear h
 replace H := Option.bind_eq_some_iff.mp H
 obtain ⟨j3, A30, H⟩ := H
 replace H : (if j3 < 0 then (some (-1)) else ((laws_szIntSS.f k l0_1 j3).bind fun j1 => (if j1 < 0 then (some (-1)) else ((laws_szIntSS.f k l0_2 j1).bind fun j0 => (if j0 < 0 then (some (-1)) else (some j0)))))) = some r := H
 have A3 := Aside0.mk A30
 clear A30
 have HH_ := Aside0.mk H
 clear H
 go_enter Try.func15, Try.ntmps15
 go_upto_region 2 with (first | ((with_reducible refine gate_dst (N := 2) rfl ?_); refine be (cs := #[.slice A0_0 l0_0.length c0_0, .slice A0_1 l0_1.length c0_1, .slice A0_2 l0_2.length c0_2]) (t := 28) ?_; intro jk hg w4 hbox hb; have ja := Aside0.mk (hbox); have jl := gz w hg (uB0 HB); have j2 := gz w hg (uB0 HB); replace HB := Aside0.mk (below_step (uB0 HB) hb); clear hb hbox hg; obtain ⟨jc, jd, je, jf, jg, jh⟩ := bc3 ja) | ((with_reducible refine gate_callee (f := 50) rfl ?_); refine goesL_ (some 8) rfl rfl Try.func50 (by kernel_rfl) rfl #[.slice A0_0 l0_0.length c0_0, .int .i64 a1] rfl ul ?_; (with_reducible refine (laws_szIntS.calls _ _ l0_0 a1 j3 _ ?side1 ?side2 A3.out).mono ?_); (case side1 => exact uC j4 HB); (case side2 => exact j5.out); rintro e w' ⟨rfl, ⟨nd, rfl⟩⟩; refine ⟨_, rfl, ?_⟩))
 have H := HH_.out
 clear HH_
 by_cases c6 : j3 < 0
 ·
  rw [if_pos c6] at H; have ji := dl c6; clear c6; obtain rfl := Option.some.inj H; go_wp2; go_ret; exact ⟨ux, uB1 HB j2.out⟩
 ·
  rw [if_neg c6] at H; have ji := DL c6; clear c6; replace H := Option.bind_eq_some_iff.mp H; obtain ⟨j1, A70, H⟩ := H; replace H : (if j1 < 0 then (some (-1)) else ((laws_szIntSS.f k l0_2 j1).bind fun j0 => (if j0 < 0 then (some (-1)) else (some j0)))) = some r := H; have A7 := Aside0.mk A70; clear A70; have HH_ := Aside0.mk H; clear H; go_upto_region 5 with (first | ((with_reducible refine gate_callee (f := 51) rfl ?_); refine goesL_ (some 14) rfl rfl Try.func51 (by kernel_rfl) rfl #[.slice A0_1 l0_1.length c0_1, .int .i64 j3] rfl ul ?_; (with_reducible refine (laws_szIntSS.calls k _ _ l0_1 j3 j1 _ ?side1 ?side2 A7.out).mono ?_); (case side1 => repeat (first | exact (Kd.C_below j6.out (uB1 HB j2.out)) | (with_reducible refine Kd.C_alloc ?_ _) | (with_reducible refine Kd.C_drewN ?_ _) | (with_reducible refine Kd.C_drew ?_))); (case side2 => exact j7.out); rintro e w' ⟨rfl, ⟨nd, rfl⟩⟩; refine ⟨_, rfl, ?_⟩))
  have H := HH_.out; clear HH_; by_cases c8 : j1 < 0
  ·
   rw [if_pos c8] at H; have jj := dl c8; clear c8; obtain rfl := Option.some.inj H; go_wp2; go_ret; exact ⟨ux, uB1 HB j2.out⟩
  ·
   rw [if_neg c8] at H; have jj := DL c8; clear c8; replace H := Option.bind_eq_some_iff.mp H; obtain ⟨j0, A90, H⟩ := H; replace H : (if j0 < 0 then (some (-1)) else (some j0)) = some r := H; have A9 := Aside0.mk A90; clear A90; have HH_ := Aside0.mk H; clear H; go_upto_region 8 with (first | ((with_reducible refine gate_callee (f := 51) rfl ?_); refine goesL_ (some 20) rfl rfl Try.func51 (by kernel_rfl) rfl #[.slice A0_2 l0_2.length c0_2, .int .i64 j1] rfl ul ?_; (with_reducible refine (laws_szIntSS.calls k _ _ l0_2 j1 j0 _ ?side1 ?side2 A9.out).mono ?_); (case side1 => repeat (first | exact (Kd.C_below j8.out (uB1 HB j2.out)) | (with_reducible refine Kd.C_alloc ?_ _) | (with_reducible refine Kd.C_drewN ?_ _) | (with_reducible refine Kd.C_drew ?_))); (case side2 => exact j9.out); rintro e w' ⟨rfl, ⟨nd, rfl⟩⟩; refine ⟨_, rfl, ?_⟩))
   have H := HH_.out; clear HH_; by_cases c10 : j0 < 0
   ·
    rw [if_pos c10] at H; have jb := dl c10; clear c10; obtain rfl := Option.some.inj H; go_wp2; go_ret; exact ⟨ux, uB1 HB j2.out⟩
   ·
    rw [if_neg c10] at H; have jb := DL c10; clear c10; obtain rfl := Option.some.inj H; go_wp2; go_ret; exact ⟨ux, uB1 HB j2.out⟩

end Go.Proofs.Ytdlaaccnaokdnaa.P
namespace Go.Proofs.Ytdlaaccnaokdnaa.P
open Go.RowKit Go.Proofs.YtdlaaccnaokdnaaV.PrintWords Go.Proofs.YtdlaaccnaokdnaaV.PrintLast
set_option linter.unusedVariables false
set_option linter.unusedSimpArgs false

/-! ### laws_eqRank: function 21 -/
def laws_eqRank.f (k : Nat) (l0_0 : List Int) (l0_1 : List (List Int)) (l0_2 : List (List Int)) (l1_0 : List Int) (l1_1 : List (List Int)) (l1_2 : List (List Int)) : Option (Bool) := (laws_eqIntS.f k l0_0 l1_0).bind fun t103 => (if t103 = true then ((laws_eqIntSS.f k l0_1 l1_1).bind fun t104 => (if t104 = true then ((laws_eqIntSS.f k l0_2 l1_2).bind fun t105 => (if t105 = true then (some true) else (some false))) else (some false))) else (some false))
set_option maxHeartbeats 8000000 in
set_option maxRecDepth 100000 in
theorem laws_eqRank.calls (k : Nat) (A0_0 : Option Addr) (c0_0 : Nat) (l0_0 : List Int) (A0_1 : Option Addr) (c0_1 : Nat) (l0_1 : List (List Int)) (A0_2 : Option Addr) (c0_2 : Nat) (l0_2 : List (List Int)) (A1_0 : Option Addr) (c1_0 : Nat) (l1_0 : List Int) (A1_1 : Option Addr) (c1_1 : Nat) (l1_1 : List (List Int)) (A1_2 : Option Addr) (c1_2 : Nat) (l1_2 : List (List Int)) (r : Bool) (w : World) (hr0_0 : Kd.C (Kd.int .i64) w A0_0 l0_0.length l0_0) (hc0_0 : l0_0.length ≤ c0_0) (hr0_1 : Kd.C (Kd.slice 3 (Kd.int .i64)) w A0_1 l0_1.length l0_1) (hc0_1 : l0_1.length ≤ c0_1) (hr0_2 : Kd.C (Kd.slice 3 (Kd.int .i64)) w A0_2 l0_2.length l0_2) (hc0_2 : l0_2.length ≤ c0_2) (hr1_0 : Kd.C (Kd.int .i64) w A1_0 l1_0.length l1_0) (hc1_0 : l1_0.length ≤ c1_0) (hr1_1 : Kd.C (Kd.slice 3 (Kd.int .i64)) w A1_1 l1_1.length l1_1) (hc1_1 : l1_1.length ≤ c1_1) (hr1_2 : Kd.C (Kd.slice 3 (Kd.int .i64)) w A1_2 l1_2.length l1_2) (hc1_2 : l1_2.length ≤ c1_2) (h : laws_eqRank.f k l0_0 l0_1 l0_2 l1_0 l1_1 l1_2 = some r) :
  Calls Try.prog 21 #[.agg #[.slice A0_0 l0_0.length c0_0, .slice A0_1 l0_1.length c0_1, .slice A0_2 l0_2.length c0_2], .agg #[.slice A1_0 l1_0.length c1_0, .slice A1_1 l1_1.length c1_1, .slice A1_2 l1_2.length c1_2]] w fun e w' => e = .returned (.bool r) ∧ Below w.heap.size w w' := by
 have hu37 := Try.underlying37
 have j7 := Aside0.mk hr0_0
 have j8 := Aside0.mk hc0_0
 clear hr0_0 hc0_0
 have jc := Aside0.mk hr0_1
 have jd := Aside0.mk hc0_1
 clear hr0_1 hc0_1
 have jl := Aside0.mk hr0_2
 have jm := Aside0.mk hc0_2
 clear hr0_2 hc0_2
 have j9 := Aside0.mk hr1_0
 have ja := Aside0.mk hc1_0
 clear hr1_0 hc1_0
 have je := Aside0.mk hr1_1
 have jf := Aside0.mk hc1_1
 clear hr1_1 hc1_1
 have jn := Aside0.mk hr1_2
 have jo := Aside0.mk hc1_2
 clear hr1_2 hc1_2
 have HB := Aside0.mk (Below.refl w.heap.size w)
 have H : ((laws_eqIntS.f k l0_0 l1_0).bind fun jk => (if jk = true then ((laws_eqIntSS.f k l0_1 l1_1).bind fun jb => (if jb = true then ((laws_eqIntSS.f k l0_2 l1_2).bind fun j6 => (if j6 = true then (some true) else (some false))) else (some false))) else (some false))) = some r := h
 clear h
 replace H := Option.bind_eq_some_iff.mp H
 obtain ⟨jk, A30, H⟩ := H
 replace H : (if jk = true then ((laws_eqIntSS.f k l0_1 l1_1).bind fun jb => (if jb = true then ((laws_eqIntSS.f k l0_2 l1_2).bind fun j6 => (if j6 = true then (some true) else (some false))) else (some false))) else (some false)) = some r := H
 have A3 := Aside0.mk A30
 clear A30
 by_cases c4 : jk = true
 ·
  subst c4; rw [if_pos rfl] at H; replace H := Option.bind_eq_some_iff.mp H; obtain ⟨jb, A50, H⟩ := H; replace H : (if jb = true then ((laws_eqIntSS.f k l0_2 l1_2).bind fun j6 => (if j6 = true then (some true) else (some false))) else (some false)) = some r := H; have A5 := Aside0.mk A50; clear A50; by_cases c6 : jb = true
  ·
   subst c6; rw [if_pos rfl] at H; replace H := Option.bind_eq_some_iff.mp H; obtain ⟨j6, A70, H⟩ := H; replace H : (if j6 = true then (some true) else (some false)) = some r := H; have A7 := Aside0.mk A70; clear A70; by_cases c8 : j6 = true
   ·
    subst c8; rw [if_pos rfl] at H; obtain rfl := Option.some.inj H; go_enter Try.func21, Try.ntmps21; go_wp2_with (first | ((with_reducible refine gate_dst (N := 2) rfl ?_); refine be (cs := #[.slice A0_0 l0_0.length c0_0, .slice A0_1 l0_1.length c0_1, .slice A0_2 l0_2.length c0_2]) (t := 37) ?_; intro jg hg w9 hbox hb; have j1 := Aside0.mk (hbox); have jh := gz w hg (uB0 HB); have j0 := gz w hg (uB0 HB); replace HB := Aside0.mk (below_step (uB0 HB) hb); clear hb hbox hg) | ((with_reducible refine gate_dst (N := 3) rfl ?_); refine be (cs := #[.slice A1_0 l1_0.length c1_0, .slice A1_1 l1_1.length c1_1, .slice A1_2 l1_2.length c1_2]) (t := 37) ?_; intro ji hg w10 hbox hb; have j5 := Aside0.mk (hbox); have jj := gz w hg (uB1 HB j0.out); have j4 := gz w hg (uB1 HB j0.out); replace HB := Aside0.mk (below_step (uB1 HB j0.out) hb); have j2 := gl hg j1; have j3 := gr hg j1; replace j1 := bb j1 hb; clear hb hbox hg; have j0b := j2.out; have j0c := j3.out; obtain ⟨jp, jq, jr, js, jt, ju⟩ := bc3 j1; obtain ⟨jv, jw, jx, jy, jz, jA⟩ := bc3 j5) | ((with_reducible refine gate_callee (f := 24) rfl ?_); refine goesL_ (some 9) rfl rfl Try.func24 (by kernel_rfl) rfl #[.slice A0_0 l0_0.length c0_0, .slice A1_0 l1_0.length c1_0] rfl ul ?_; (with_reducible refine (laws_eqIntS.calls k _ _ l0_0 _ _ l1_0 true _ ?side1 ?side2 ?side3 ?side4 A3.out).mono ?_); (case side1 => exact uC j7 HB); (case side2 => exact j8.out); (case side3 => exact uC j9 HB); (case side4 => exact ja.out); rintro e w' ⟨rfl, ⟨nd, rfl⟩⟩; refine ⟨_, rfl, ?_⟩) | ((with_reducible refine gate_callee (f := 61) rfl ?_); refine goesL_ (some 15) rfl rfl Try.func61 (by kernel_rfl) rfl #[.slice A0_1 l0_1.length c0_1, .slice A1_1 l1_1.length c1_1] rfl ul ?_; (with_reducible refine (laws_eqIntSS.calls k _ _ l0_1 _ _ l1_1 true _ ?side1 ?side2 ?side3 ?side4 A5.out).mono ?_); (case side1 => repeat (first | exact (Kd.C_below jc.out (uB2 HB j0.out j4.out)) | (with_reducible refine Kd.C_alloc ?_ _) | (with_reducible refine Kd.C_drewN ?_ _) | (with_reducible refine Kd.C_drew ?_))); (case side2 => exact jd.out); (case side3 => repeat (first | exact (Kd.C_below je.out (uB2 HB j0.out j4.out)) | (with_reducible refine Kd.C_alloc ?_ _) | (with_reducible refine Kd.C_drewN ?_ _) | (with_reducible refine Kd.C_drew ?_))); (case side4 => exact jf.out); rintro e w' ⟨rfl, ⟨nd, rfl⟩⟩; refine ⟨_, rfl, ?_⟩) | ((with_reducible refine gate_callee (f := 61) rfl ?_); refine goesL_ (some 21) rfl rfl Try.func61 (by kernel_rfl) rfl #[.slice A0_2 l0_2.length c0_2, .slice A1_2 l1_2.length c1_2] rfl ul ?_; (with_reducible refine (laws_eqIntSS.calls k _ _ l0_2 _ _ l1_2 true _ ?side1 ?side2 ?side3 ?side4 A7.out).mono ?_); (case side1 => repeat (first | exact (Kd.C_below jl.out (uB2 HB j0.out j4.out)) | (with_reducible refine Kd.C_alloc ?_ _) | (with_reducible refine Kd.C_drewN ?_ _) | (with_reducible refine Kd.C_drew ?_))); (case side2 => exact jm.out); (case side3 => repeat (first | exact (Kd.C_below jn.out (uB2 HB j0.out j4.out)) | (with_reducible refine Kd.C_alloc ?_ _) | (with_reducible refine Kd.C_drewN ?_ _) | (with_reducible refine Kd.C_drew ?_))); (case side4 => exact jo.out); rintro e w' ⟨rfl, ⟨nd, rfl⟩⟩; refine ⟨_, rfl, ?_⟩)); go_ret; exact ⟨ux, uB2 HB j0.out j4.out⟩
   ·
    replace c8 := Bool.eq_false_iff.mpr c8; subst c8; rw [if_neg (show ¬ (false = true) by decide)] at H; obtain rfl := Option.some.inj H; go_enter Try.func21, Try.ntmps21; go_wp2_with (first | ((with_reducible refine gate_dst (N := 2) rfl ?_); refine be (cs := #[.slice A0_0 l0_0.length c0_0, .slice A0_1 l0_1.length c0_1, .slice A0_2 l0_2.length c0_2]) (t := 37) ?_; intro jg hg w14 hbox hb; have j1 := Aside0.mk (hbox); have jh := gz w hg (uB0 HB); have j0 := gz w hg (uB0 HB); replace HB := Aside0.mk (below_step (uB0 HB) hb); clear hb hbox hg) | ((with_reducible refine gate_dst (N := 3) rfl ?_); refine be (cs := #[.slice A1_0 l1_0.length c1_0, .slice A1_1 l1_1.length c1_1, .slice A1_2 l1_2.length c1_2]) (t := 37) ?_; intro ji hg w15 hbox hb; have j5 := Aside0.mk (hbox); have jj := gz w hg (uB1 HB j0.out); have j4 := gz w hg (uB1 HB j0.out); replace HB := Aside0.mk (below_step (uB1 HB j0.out) hb); have j2 := gl hg j1; have j3 := gr hg j1; replace j1 := bb j1 hb; clear hb hbox hg; have j0d := j2.out; have j0e := j3.out; obtain ⟨jB, jC, jD, jE, jF, jG⟩ := bc3 j1; obtain ⟨jH, jI, jJ, jK, jL, jM⟩ := bc3 j5) | ((with_reducible refine gate_callee (f := 24) rfl ?_); refine goesL_ (some 9) rfl rfl Try.func24 (by kernel_rfl) rfl #[.slice A0_0 l0_0.length c0_0, .slice A1_0 l1_0.length c1_0] rfl ul ?_; (with_reducible refine (laws_eqIntS.calls k _ _ l0_0 _ _ l1_0 true _ ?side1 ?side2 ?side3 ?side4 A3.out).mono ?_); (case side1 => exact uC j7 HB); (case side2 => exact j8.out); (case side3 => exact uC j9 HB); (case side4 => exact ja.out); rintro e w' ⟨rfl, ⟨nd, rfl⟩⟩; refine ⟨_, rfl, ?_⟩) | ((with_reducible refine gate_callee (f := 61) rfl ?_); refine goesL_ (some 15) rfl rfl Try.func61 (by kernel_rfl) rfl #[.slice A0_1 l0_1.length c0_1, .slice A1_1 l1_1.length c1_1] rfl ul ?_; (with_reducible refine (laws_eqIntSS.calls k _ _ l0_1 _ _ l1_1 true _ ?side1 ?side2 ?side3 ?side4 A5.out).mono ?_); (case side1 => repeat (first | exact (Kd.C_below jc.out (uB2 HB j0.out j4.out)) | (with_reducible refine Kd.C_alloc ?_ _) | (with_reducible refine Kd.C_drewN ?_ _) | (with_reducible refine Kd.C_drew ?_))); (case side2 => exact jd.out); (case side3 => repeat (first | exact (Kd.C_below je.out (uB2 HB j0.out j4.out)) | (with_reducible refine Kd.C_alloc ?_ _) | (with_reducible refine Kd.C_drewN ?_ _) | (with_reducible refine Kd.C_drew ?_))); (case side4 => exact jf.out); rintro e w' ⟨rfl, ⟨nd, rfl⟩⟩; refine ⟨_, rfl, ?_⟩) | ((with_reducible refine gate_callee (f := 61) rfl ?_); refine goesL_ (some 21) rfl rfl Try.func61 (by kernel_rfl) rfl #[.slice A0_2 l0_2.length c0_2, .slice A1_2 l1_2.length c1_2] rfl ul ?_; (with_reducible refine (laws_eqIntSS.calls k _ _ l0_2 _ _ l1_2 false _ ?side1 ?side2 ?side3 ?side4 A7.out).mono ?_); (case side1 => repeat (first | exact (Kd.C_below jl.out (uB2 HB j0.out j4.out)) | (with_reducible refine Kd.C_alloc ?_ _) | (with_reducible refine Kd.C_drewN ?_ _) | (with_reducible refine Kd.C_drew ?_))); (case side2 => exact jm.out); (case side3 => repeat (first | exact (Kd.C_below jn.out (uB2 HB j0.out j4.out)) | (with_reducible refine Kd.C_alloc ?_ _) | (with_reducible refine Kd.C_drewN ?_ _) | (with_reducible refine Kd.C_drew ?_))); (case side4 => exact jo.out); rintro e w' ⟨rfl, ⟨nd, rfl⟩⟩; refine ⟨_, rfl, ?_⟩)); go_ret; exact ⟨ux, uB2 HB j0.out j4.out⟩
  ·
   replace c6 := Bool.eq_false_iff.mpr c6; subst c6; rw [if_neg (show ¬ (false = true) by decide)] at H; obtain rfl := Option.some.inj H; go_enter Try.func21, Try.ntmps21; go_wp2_with (first | ((with_reducible refine gate_dst (N := 2) rfl ?_); refine be (cs := #[.slice A0_0 l0_0.length c0_0, .slice A0_1 l0_1.length c0_1, .slice A0_2 l0_2.length c0_2]) (t := 37) ?_; intro jg hg w19 hbox hb; have j1 := Aside0.mk (hbox); have jh := gz w hg (uB0 HB); have j0 := gz w hg (uB0 HB); replace HB := Aside0.mk (below_step (uB0 HB) hb); clear hb hbox hg) | ((with_reducible refine gate_dst (N := 3) rfl ?_); refine be (cs := #[.slice A1_0 l1_0.length c1_0, .slice A1_1 l1_1.length c1_1, .slice A1_2 l1_2.length c1_2]) (t := 37) ?_; intro ji hg w20 hbox hb; have j5 := Aside0.mk (hbox); have jj := gz w hg (uB1 HB j0.out); have j4 := gz w hg (uB1 HB j0.out); replace HB := Aside0.mk (below_step (uB1 HB j0.out) hb); have j2 := gl hg j1; have j3 := gr hg j1; replace j1 := bb j1 hb; clear hb hbox hg; have j0f := j2.out; have j0g := j3.out; obtain ⟨jN, jO, jP, jQ, jR, jS⟩ := bc3 j1; obtain ⟨jT, jU, jV, jW, jX, jY⟩ := bc3 j5) | ((with_reducible refine gate_callee (f := 24) rfl ?_); refine goesL_ (some 9) rfl rfl Try.func24 (by kernel_rfl) rfl #[.slice A0_0 l0_0.length c0_0, .slice A1_0 l1_0.length c1_0] rfl ul ?_; (with_reducible refine (laws_eqIntS.calls k _ _ l0_0 _ _ l1_0 true _ ?side1 ?side2 ?side3 ?side4 A3.out).mono ?_); (case side1 => exact uC j7 HB); (case side2 => exact j8.out); (case side3 => exact uC j9 HB); (case side4 => exact ja.out); rintro e w' ⟨rfl, ⟨nd, rfl⟩⟩; refine ⟨_, rfl, ?_⟩) | ((with_reducible refine gate_callee (f := 61) rfl ?_); refine goesL_ (some 15) rfl rfl Try.func61 (by kernel_rfl) rfl #[.slice A0_1 l0_1.length c0_1, .slice A1_1 l1_1.length c1_1] rfl ul ?_; (with_reducible refine (laws_eqIntSS.calls k _ _ l0_1 _ _ l1_1 false _ ?side1 ?side2 ?side3 ?side4 A5.out).mono ?_); (case side1 => repeat (first | exact (Kd.C_below jc.out (uB2 HB j0.out j4.out)) | (with_reducible refine Kd.C_alloc ?_ _) | (with_reducible refine Kd.C_drewN ?_ _) | (with_reducible refine Kd.C_drew ?_))); (case side2 => exact jd.out); (case side3 => repeat (first | exact (Kd.C_below je.out (uB2 HB j0.out j4.out)) | (with_reducible refine Kd.C_alloc ?_ _) | (with_reducible refine Kd.C_drewN ?_ _) | (with_reducible refine Kd.C_drew ?_))); (case side4 => exact jf.out); rintro e w' ⟨rfl, ⟨nd, rfl⟩⟩; refine ⟨_, rfl, ?_⟩)); go_ret; exact ⟨ux, uB2 HB j0.out j4.out⟩
 ·
  replace c4 := Bool.eq_false_iff.mpr c4; subst c4; rw [if_neg (show ¬ (false = true) by decide)] at H; obtain rfl := Option.some.inj H; go_enter Try.func21, Try.ntmps21; go_wp2_with (first | ((with_reducible refine gate_dst (N := 2) rfl ?_); refine be (cs := #[.slice A0_0 l0_0.length c0_0, .slice A0_1 l0_1.length c0_1, .slice A0_2 l0_2.length c0_2]) (t := 37) ?_; intro jg hg w24 hbox hb; have j1 := Aside0.mk (hbox); have jh := gz w hg (uB0 HB); have j0 := gz w hg (uB0 HB); replace HB := Aside0.mk (below_step (uB0 HB) hb); clear hb hbox hg) | ((with_reducible refine gate_dst (N := 3) rfl ?_); refine be (cs := #[.slice A1_0 l1_0.length c1_0, .slice A1_1 l1_1.length c1_1, .slice A1_2 l1_2.length c1_2]) (t := 37) ?_; intro ji hg w25 hbox hb; have j5 := Aside0.mk (hbox); have jj := gz w hg (uB1 HB j0.out); have j4 := gz w hg (uB1 HB j0.out); replace HB := Aside0.mk (below_step (uB1 HB j0.out) hb); have j2 := gl hg j1; have j3 := gr hg j1; replace j1 := bb j1 hb; clear hb hbox hg; have j0h := j2.out; have j0i := j3.out; obtain ⟨jZ, j00, j01, j02, j03, j04⟩ := bc3 j1; obtain ⟨j05, j06, j07, j08, j09, j0a⟩ := bc3 j5) | ((with_reducible refine gate_callee (f := 24) rfl ?_); refine goesL_ (some 9) rfl rfl Try.func24 (by kernel_rfl) rfl #[.slice A0_0 l0_0.length c0_0, .slice A1_0 l1_0.length c1_0] rfl ul ?_; (with_reducible refine (laws_eqIntS.calls k _ _ l0_0 _ _ l1_0 false _ ?side1 ?side2 ?side3 ?side4 A3.out).mono ?_); (case side1 => exact uC j7 HB); (case side2 => exact j8.out); (case side3 => exact uC j9 HB); (case side4 => exact ja.out); rintro e w' ⟨rfl, ⟨nd, rfl⟩⟩; refine ⟨_, rfl, ?_⟩)); go_ret; exact ⟨ux, uB2 HB j0.out j4.out⟩

end Go.Proofs.Ytdlaaccnaokdnaa.P
