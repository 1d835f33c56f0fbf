-- printed for this claim by a program
import Derived.Test.YtblpdfgplifccaaPx0
import Derived.Test.YtblpdfgplifccaaHUp
import Derived.Test.YtblpdfgplifccaaPFSpecL30Open
import Derived.Test.YtblpdfgplifccaaPFSpecL30Anynet
import Derived.Test.YtblpdfgplifccaaGRd
namespace Go.Proofs.Ytblpdfgplifccaa.P
open Go.RowKit Go.Proofs.YtblpdfgplifccaaV.PrintWords Go.Proofs.YtblpdfgplifccaaV.PrintLast
set_option linter.unusedVariables false
set_option linter.unusedSimpArgs false

/-! ### spec_DrawPartNear: function 52 -/
def spec_DrawPartNear.f (k : Nat) (l0 : List Int) : Option (Int × (List (S33)) × List Int × Int × Int) := (spec_l30Open.f l0).bind fun bt102 => ((spec_l30AnyNet.f k bt102.1 bt102.2).bind fun bt105 => ((spec_l30Part.f k bt102.1 bt105.2.2 bt105.1 bt105.2.1).bind fun bt111 => ((spec_l30Node.f k bt102.1 bt111.2 bt105.1 bt105.2.1).bind fun bt115 => ((spec_l30Node.f k bt102.1 bt115.2 bt105.1 bt105.2.1).bind fun bt117 => (some (bt105.1, bt105.2.1, bt111.1, bt115.1, bt117.1))))))
def spec_DrawPartNear.T5 : Bool × List (List Nat × List Nat) := (true, [([], []), ([], []), ([], []), ([], []), ([], []), ([3, 4], [3, 4]), ([0, 5, 0], [0]), ([1, 6, 0, 1, 6], [1]), ([2, 7, 0, 1, 2, 6, 7], [2]), ([5, 8, 0, 1, 2, 3, 4, 5, 6, 7, 8], [5])])
def spec_DrawPartNear.B5 : List Nat := [0, 0, 0, 0, 0, 24, 57, 123, 255, 511]
theorem spec_DrawPartNear.tab5 : rtab .any (opsOf Try.f52 5) = spec_DrawPartNear.T5 := by kernel_rfl
theorem spec_DrawPartNear.bits5 : waitsOk spec_DrawPartNear.T5.2 spec_DrawPartNear.B5 = true := by kernel_rfl
set_option maxHeartbeats 8000000 in
set_option maxRecDepth 100000 in
theorem spec_DrawPartNear.calls (k : Nat) (A0 : Option Addr) (c0 : Nat) (l0 : List Int) (r1 : Int) (r2 : List (S33)) (r3 : List Int) (r4 : Int) (r5 : Int) (w : World) (hr0 : Kd.C (Kd.int .u8) w A0 l0.length l0) (hc0 : l0.length ≤ c0) (h : spec_DrawPartNear.f k l0 = some (r1, r2, r3, r4, r5)) :
  Calls Try.prog 52 #[.slice A0 l0.length c0] w fun e w' => ∃ v1_ v2_ : Value, e = .returned (.tuple #[.agg #[.int .i64 r1, v1_], v2_, .int .i64 r4, .int .i64 r5]) ∧ Kd.R k33 33 w' w.heap.size (fun _ => True) v1_ r2 ∧ Kd.R (Kd.int .i64) 3 w' w.heap.size (fun _ => True) v2_ r3 ∧ Below w.heap.size w w' := by
 have hu25 := Try.underlying25
 have HR0 := Aside0.mk hr0
 have HC0 := Aside0.mk hc0
 clear hr0 hc0
 have HB := Aside0.mk (Below.refl w.heap.size w)
 have H : ((spec_l30Open.f l0).bind fun bt102 => ((spec_l30AnyNet.f k bt102.1 bt102.2).bind fun bt105 => ((spec_l30Part.f k bt102.1 bt105.2.2 bt105.1 bt105.2.1).bind fun bt111 => ((spec_l30Node.f k bt102.1 bt111.2 bt105.1 bt105.2.1).bind fun bt115 => ((spec_l30Node.f k bt102.1 bt115.2 bt105.1 bt105.2.1).bind fun bt117 => (some (bt105.1, bt105.2.1, bt111.1, bt115.1, bt117.1))))))) = some (r1, r2, r3, r4, r5) := h
 clear h
 replace H := Option.bind_eq_some_iff.mp H
 obtain ⟨⟨j6, jn⟩, A20, H⟩ := H
 replace H : ((spec_l30AnyNet.f k j6 jn).bind fun bt105 => ((spec_l30Part.f k j6 bt105.2.2 bt105.1 bt105.2.1).bind fun bt111 => ((spec_l30Node.f k j6 bt111.2 bt105.1 bt105.2.1).bind fun bt115 => ((spec_l30Node.f k j6 bt115.2 bt105.1 bt105.2.1).bind fun bt117 => (some (bt105.1, bt105.2.1, bt111.1, bt115.1, bt117.1)))))) = some (r1, r2, r3, r4, r5) := H
 have A2 := Aside0.mk A20
 clear A20
 replace H := Option.bind_eq_some_iff.mp H
 obtain ⟨⟨j7, j8, jj⟩, A30, H⟩ := H
 replace H : ((spec_l30Part.f k j6 jj j7 j8).bind fun bt111 => ((spec_l30Node.f k j6 bt111.2 j7 j8).bind fun bt115 => ((spec_l30Node.f k j6 bt115.2 j7 j8).bind fun bt117 => (some (j7, j8, bt111.1, bt115.1, bt117.1))))) = some (r1, r2, r3, r4, r5) := H
 have A3 := Aside0.mk A30
 clear A30
 replace H := Option.bind_eq_some_iff.mp H
 obtain ⟨⟨jm, jk⟩, A40, H⟩ := H
 replace H : ((spec_l30Node.f k j6 jk j7 j8).bind fun bt115 => ((spec_l30Node.f k j6 bt115.2 j7 j8).bind fun bt117 => (some (j7, j8, jm, bt115.1, bt117.1)))) = some (r1, r2, r3, r4, r5) := H
 have A4 := Aside0.mk A40
 clear A40
 replace H := Option.bind_eq_some_iff.mp H
 obtain ⟨⟨jo, jl⟩, A50, H⟩ := H
 replace H : ((spec_l30Node.f k j6 jl j7 j8).bind fun bt117 => (some (j7, j8, jm, jo, bt117.1))) = some (r1, r2, r3, r4, r5) := H
 have A5 := Aside0.mk A50
 clear A50
 replace H := Option.bind_eq_some_iff.mp H
 obtain ⟨⟨jp, jC⟩, A60, H⟩ := H
 replace H : (some (j7, j8, jm, jo, jp)) = some (r1, r2, r3, r4, r5) := H
 have A6 := Aside0.mk A60
 clear A60
 simp only [Option.some.injEq, Prod.mk.injEq] at H
 obtain ⟨rfl, rfl, rfl, rfl, rfl⟩ := H
 go_enter Try.func52, Try.ntmps52
 try go_wp2_with (first | ((with_reducible refine gate_dst (N := 2) rfl ?_); refine be (cs := #[.int .i64 0, .slice none 0 0]) (t := 25) ?_; intro j9 hg w7 hbox hb; have j2 := Aside0.mk (hbox); have jE := gz w hg (uB0 HB); have ja := gz w hg (uB0 HB); replace HB := Aside0.mk (below_step (uB0 HB) hb); clear hb hbox hg) | ((with_reducible refine gate_callee (f := 55) rfl ?_); refine goesL_ (some 11) rfl rfl Try.func55 (by kernel_rfl) rfl #[.slice A0 l0.length c0] rfl ul ?_; (with_reducible refine (spec_l30Open.calls _ _ l0 j6 jn w _ ?side1 ?side2 ?side3 A2.out).mono ?_); (case side1 => exact uB1 HB ja.out); (case side2 => exact HR0.out); (case side3 => exact HC0.out); rintro e w8 ⟨g104, rfl, hi, hb, hb2⟩; refine ⟨_, rfl, ?_⟩; replace HB := Aside0.mk (hb); have HI104 := Aside0.mk (hi); have j0 := Aside0.mk (IsS91.ne_blk hi (blk_below (g := j9) (o := .cells #[.int .i64 0, .slice none 0 0] 25 (0, 0)) (ub j2) hb2) (by decide)); have jb := Aside0.mk (Ne.symm (IsS91.ne_blk hi (blk_below (g := j9) (o := .cells #[.int .i64 0, .slice none 0 0] 25 (0, 0)) (ub j2) hb2) (by decide))); replace j2 := Aside0.mk (blk_below (g := j9) (o := .cells #[.int .i64 0, .slice none 0 0] 25 (0, 0)) (ub j2) hb2); (try clear hb); (try clear hb2); (try clear hk); (try clear hi)) | ((with_reducible refine gate_callee (f := 56) rfl ?_); refine goesL_ (some 13) rfl rfl Try.func56 (by kernel_rfl) rfl #[.pointer (some ⟨g104, 0, none⟩)] rfl ul ?_; (with_reducible refine (spec_l30AnyNet.calls k g104 j6 jn j7 j8 jj w _ ?side1 ?side2 A3.out).mono ?_); (case side1 => exact uI1 HI104 j0.out); (case side2 => exact uB2 HB (IsS91.ge HI104.out) ja.out); rintro e w9 ⟨v107, rfl, ho0, hi, hb, hk⟩; refine ⟨_, rfl, ?_⟩; replace j2 := Aside0.mk (KeepBut.blk hk (g' := j9) (o := .cells #[.int .i64 0, .slice none 0 0] 25 (0, 0)) (ub j2) jb.out (by simp)); have j3 := Aside0.mk (Kd.R_lower ho0 (below_size (uB2 HB (IsS91.ge HI104.out) ja.out))); replace HB := Aside0.mk (hb); replace HI104 := Aside0.mk (hi); (try clear hb); (try clear hb2); (try clear hk); (try clear hi); (try clear ho0)) | ((with_reducible refine gate_dst (N := 7) rfl ?_); refine be (cs := #[.int .i64 0, .slice none 0 0]) (t := 25) ?_; intro jf hg w10 hbox hb; replace j3 := Aside0.mk (Kd.R_below (ur j3) hb); have j5 := Aside0.mk (hbox); have jF := Aside0.mk ((by rw [hg]; exact (below_size (uB2 HB (IsS91.ge HI104.out) ja.out)) : w.heap.size ≤ jf)); have jg := Aside0.mk ((by rw [hg]; exact (below_size (uB2 HB (IsS91.ge HI104.out) ja.out)) : w.heap.size ≤ jf)); replace HB := Aside0.mk (below_step (uB2 HB (IsS91.ge HI104.out) ja.out) hb); have jc := gl hg j2; have j4 := gr hg j2; replace j2 := bb j2 hb; have j1 := Aside0.mk ((by rw [hg]; exact Nat.ne_of_lt (IsS91.lt (show IsS91 w _ g104 j6 jj from uI1 HI104 j0.out)) : g104 ≠ jf)); have jd := Aside0.mk ((by rw [hg]; exact Nat.ne_of_gt (IsS91.lt (show IsS91 w _ g104 j6 jj from uI1 HI104 j0.out)) : jf ≠ g104)); replace HI104 := Aside0.mk (IsS91.below (uI1 HI104 j0.out) hb); clear hb hbox hg; have jG := j4.out; have jH := jc.out; have jI := jd.out; have jJ := j1.out; obtain ⟨jq, jr, js, jt⟩ := bc2 j5; obtain ⟨jh, ji, jD⟩ := Kd.R_slice j3.out; subst jD) | ((with_reducible refine gate_callee (f := 78) rfl ?_); refine goesL_ (some 16) rfl rfl Try.func78 (by kernel_rfl) rfl #[.pointer (some ⟨g104, 0, none⟩), .agg #[.int .i64 j7, .slice jh j8.length ji]] rfl ul ?_; (with_reducible refine (spec_l30Part.calls k g104 j6 jj j7 _ _ j8 jm jk w _ ?side1 ?side2 ?side3 ?side4 A4.out).mono ?_); (case side1 => exact uI2 HI104 j0.out j1.out); (case side2 => exact uB3 HB (IsS91.ge HI104.out) ja.out jg.out); (case side3 => exact Kd.C_foot_own (IsS91.apart (show IsS91 w _ g104 j6 jj from uI2 HI104 j0.out j1.out) (by (with_reducible repeat (first | apply Kd.R_alloc | apply Kd.R_drewN | apply Kd.R_drew)); exact (Kd.R_mono (rf2 j3 j5) (fun _ h_ => h_.1))) (by decide)) (fun _ h_ => h_.2)); (case side4 => exact (Kd.R_reads' j3.out).2.1); rintro e w15 ⟨v112, rfl, ho0, hi, hb, hk⟩; refine ⟨_, rfl, ?_⟩; replace j2 := Aside0.mk (KeepBut.blk hk (g' := j9) (o := .cells #[.int .i64 0, .slice none 0 0] 25 (0, 0)) (by (with_reducible repeat first | apply zbn | apply zbd | apply zba); refine fa2 ?_ jc; exact ub j2) jb.out (by simp)); replace j3 := Aside0.mk (Kd.R_mono (Kd.R_keep (IsS91.apart (show IsS91 w _ g104 j6 jj from uI2 HI104 j0.out j1.out) (by (with_reducible repeat (first | apply Kd.R_alloc | apply Kd.R_drewN | apply Kd.R_drew)); exact (Kd.R_mono (rf2 j3 j5) (fun _ h_ => h_.1))) (by decide)) hk (fun _ h => h.2)) (fun _ h => h.1)); replace j5 := Aside0.mk (KeepBut.blk hk (g' := jf) (o := .cells #[.int .i64 j7, .slice jh j8.length ji] 25 (0, 0)) (by (with_reducible repeat first | apply zbn | apply zbd | apply zba); refine pu2 (.int .i64 0) (.slice none 0 0) ?_; exact ub j5) jd.out (by simp)); have je := Aside0.mk (Kd.R_lower ho0 (below_size (uB3 HB (IsS91.ge HI104.out) ja.out jg.out))); replace HB := Aside0.mk (hb); replace HI104 := Aside0.mk (hi); (try clear hb); (try clear hb2); (try clear hk); (try clear hi); (try clear ho0); obtain ⟨ju, jv, jw, jx⟩ := bc2 j5) | ((with_reducible refine gate_callee (f := 93) rfl ?_); refine goesL_ (some 19) rfl rfl Try.func93 (by kernel_rfl) rfl #[.pointer (some ⟨g104, 0, none⟩), .agg #[.int .i64 j7, .slice jh j8.length ji]] rfl ul ?_; (with_reducible refine (spec_l30Node.calls k g104 j6 jk j7 _ _ j8 jo jl w _ ?side1 ?side2 ?side3 ?side4 A5.out).mono ?_); (case side1 => exact uI2 HI104 j0.out j1.out); (case side2 => exact uB3 HB (IsS91.ge HI104.out) ja.out jg.out); (case side3 => exact Kd.C_foot_own (IsS91.apart (show IsS91 w _ g104 j6 jk from uI2 HI104 j0.out j1.out) (ur j3) (by decide)) (fun _ h_ => h_.2)); (case side4 => exact (Kd.R_reads' j3.out).2.1); rintro e w17 ⟨rfl, hi, hb, hk⟩; refine ⟨_, rfl, ?_⟩; replace j2 := Aside0.mk (KeepBut.blk hk (g' := j9) (o := .cells #[.int .i64 0, .slice none 0 0] 25 (0, 0)) (ub j2) jb.out (by simp)); replace j3 := Aside0.mk (Kd.R_mono (Kd.R_keep (IsS91.apart (show IsS91 w _ g104 j6 jk from uI2 HI104 j0.out j1.out) (ur j3) (by decide)) hk (fun _ h => h.2)) (fun _ h => h.1)); replace j5 := Aside0.mk (KeepBut.blk hk (g' := jf) (o := .cells #[.int .i64 j7, .slice jh j8.length ji] 25 (0, 0)) (ub j5) jd.out (by simp)); replace je := Aside0.mk (Kd.R_mono (Kd.R_keep (IsS91.apart (show IsS91 w _ g104 j6 jk from uI2 HI104 j0.out j1.out) (ur je) (by decide)) hk (fun _ h => h.2)) (fun _ h => h.1)); replace HB := Aside0.mk (hb); replace HI104 := Aside0.mk (hi); (try clear hb); (try clear hb2); (try clear hk); (try clear hi)))
 have n0_ := Aside0.mk (Kd.R_drew j3.out)
 have n1_ := Aside0.mk (Kd.R_drew je.out)
 have n2_ := Aside0.mk (blk_drew j2.out)
 have n3_ := Aside0.mk (blk_drew j5.out)
 have n4_ := Aside0.mk (IsS91.drew HI104.out)
 have n5_ := Aside0.mk (below_drew1 HB.out)
 clear j3
 clear je
 clear j2
 clear j5
 clear HI104
 clear HB
 have j3 := n0_
 have je := n1_
 have j2 := n2_
 have j5 := n3_
 have HI104 := n4_
 have HB := n5_
 clear n0_ n1_ n2_ n3_ n4_ n5_
 refine start_ (n := 10) (S := fun w' => w'.cell? ⟨jf, 0, none⟩ = some (.int .i64 j7) ∧ w'.cell? ⟨jf, 1, none⟩ = some (.slice jh j8.length ji)) (ds := []) (zt 10 0) (by kernel_rfl) rfl (by kernel_rfl) (b2_ j5) (fun hHeld => ?_); refine with_tabW spec_DrawPartNear.tab5 spec_DrawPartNear.bits5 (fun HT_ HW_ => ?_)
 generalize w17.drew = w18 at j3 je j2 j5 HI104 HB hHeld ⊢
 refine pure_ (i := 1) (N := some 21) (v := ?_) (a' := ?_) (zt 10 2) rfl rfl (any_of HT_.out (by kernel_rfl)) (fun _ _ _ h => h) (Or.inl ⟨by rfl, ?_⟩) ?_ ?_
 rotate_left
 (intro w'; go_simp; with_reducible rfl)
 rotate_left
 (simp only [Act.put, List.setIfInBounds_toArray, List.set_cons_zero, List.set_cons_succ, i64_w, i32_w]; rfl)
 refine pure_ (i := 2) (N := some 22) (v := ?_) (a' := ?_) (zt 10 6) rfl rfl (any_of HT_.out (by kernel_rfl)) (fun _ _ _ h => h) (Or.inl ⟨by rfl, ?_⟩) ?_ ?_
 rotate_left
 (intro w'; go_simp; with_reducible rfl)
 rotate_left
 (simp only [Act.put, List.setIfInBounds_toArray, List.set_cons_zero, List.set_cons_succ, i64_w, i32_w]; rfl)
 refine pure_ (i := 3) (N := some 23) (v := ?_) (a' := ?_) (zt 10 14) rfl rfl (any_of HT_.out (by kernel_rfl)) (fun _ _ _ h => h) (Or.inl ⟨by rfl, ?_⟩) ?_ ?_
 rotate_left
 (intro w'; go_simp; with_reducible rfl)
 rotate_left
 (simp only [Act.put, List.setIfInBounds_toArray, List.set_cons_zero, List.set_cons_succ, i64_w, i32_w]; rfl)
 refine take_ (i := 0) (N := some 20) (v := ?_) (a' := ?_) (zt 10 15) rfl rfl (take_ofW HT_.out HW_.out (by kernel_rfl)) (fun _ _ _ h => h) (Or.inl ⟨by rfl, ?_⟩) hHeld ?_ ?_
 rotate_left
 (rintro w' ⟨s0, s1⟩; go_simp; with_reducible rfl)
 rotate_left
 (simp only [Act.put, List.setIfInBounds_toArray, List.set_cons_zero, List.set_cons_succ, i64_w, i32_w]; rfl)
 refine take_ (i := 4) (N := some 24) (v := ?_) (a' := ?_) (zt 10 31) rfl rfl (take_ofW HT_.out HW_.out (by kernel_rfl)) (fun _ _ _ h => h) (Or.inl ⟨by rfl, ?_⟩) hHeld ?_ ?_
 rotate_left
 (rintro w' ⟨s0, s1⟩; go_simp; with_reducible rfl)
 rotate_left
 (simp only [Act.put, List.setIfInBounds_toArray, List.set_cons_zero, List.set_cons_succ, i64_w, i32_w]; rfl)
 refine qo HT_ 5 (fun K hK => ?_)
 refine goes_ Try.func93 (by kernel_rfl) rfl #[.pointer (some ⟨g104, 0, none⟩), .agg #[.int .i64 j7, .slice jh j8.length ji]] (by rfl) rfl rfl ul ?_
 with_reducible refine (spec_l30Node.calls k g104 j6 jl j7 _ _ j8 jp jC w _ ?side1 ?side2 ?side3 ?side4 A6.out).mono ?_
 (case side1 => exact uI2 HI104 j0.out j1.out)
 (case side2 => exact uB3 HB (IsS91.ge HI104.out) ja.out jg.out)
 (case side3 => exact Kd.C_foot_own (IsS91.apart (show IsS91 w _ g104 j6 jl from uI2 HI104 j0.out j1.out) (ur j3) (by decide)) (fun _ h_ => h_.2))
 (case side4 => exact (Kd.R_reads' j3.out).2.1)
 rintro e w19 ⟨rfl, hi, hb, hk⟩
 refine ⟨_, rfl, ?_⟩
 have n0_ := Aside0.mk (KeepBut.blk hk (g' := j9) (o := .cells #[.int .i64 0, .slice none 0 0] 25 (0, 0)) (ub j2) jb.out (by simp))
 have n1_ := Aside0.mk (Kd.R_mono (Kd.R_keep (IsS91.apart (show IsS91 w _ g104 j6 jl from uI2 HI104 j0.out j1.out) (ur j3) (by decide)) hk (fun _ h => h.2)) (fun _ h => h.1))
 have n2_ := Aside0.mk (KeepBut.blk hk (g' := jf) (o := .cells #[.int .i64 j7, .slice jh j8.length ji] 25 (0, 0)) (ub j5) jd.out (by simp))
 have n3_ := Aside0.mk (Kd.R_mono (Kd.R_keep (IsS91.apart (show IsS91 w _ g104 j6 jl from uI2 HI104 j0.out j1.out) (ur je) (by decide)) hk (fun _ h => h.2)) (fun _ h => h.1))
 have n4_ := Aside0.mk (hb)
 have n5_ := Aside0.mk (hi)
 clear j2
 clear j3
 clear j5
 clear je
 clear HB
 clear HI104
 have j2 := n0_
 have j3 := n1_
 have j5 := n2_
 have je := n3_
 have HB := n4_
 have HI104 := n5_
 clear n0_ n1_ n2_ n3_ n4_ n5_
 (try clear hb)
 (try clear hb2)
 (try clear hk)
 (try clear hi)
 refine hK.out _ _ (b2_ j5) (fun hHeld => ?_)
 clear hK K
 refine norm_ (a' := ?_) ?_ ?_
 rotate_left
 ·
  show Act.put _ (some 25) _ = _
  simp only [Act.put, List.setIfInBounds_toArray, List.set_cons_zero, List.set_cons_succ, i64_w, i32_w]; rfl
 refine qo HT_ 6 (fun K hK => ?_)
 have jM : w19.cell? ⟨j9, 0, none⟩ = some (.int .i64 0) := (blk_cell j2.out 0).trans rfl
 have jK := blk_frozen j2.out 0
 have jy := j4.out
 have jz := jc.out
 have jN : w19.cell? ⟨j9, 1, none⟩ = some (.slice none 0 0) := (blk_cell j2.out 1).trans rfl
 have jL := blk_frozen j2.out 1
 have jA := j4.out
 have jB := jc.out
 refine skip_ (w1 := ?_) (by rfl) rfl ?_ ?_
 rotate_left
 ·
  go_simp; rfl
 refine hK.out _ _ ⟨((cell_far (p := ⟨j9, _, none⟩) j4.out _).trans (((cell_far (p := ⟨j9, _, none⟩) j4.out _).trans (hHeld.1)))), ((cell_far (p := ⟨j9, _, none⟩) j4.out _).trans (((cell_far (p := ⟨j9, _, none⟩) j4.out _).trans (hHeld.2))))⟩ (fun hHeld => ?_)
 clear hK K
 refine pure_ (i := 7) (N := some 3) (v := ?_) (a' := ?_) (zt 10 255) rfl rfl (any_of HT_.out (by kernel_rfl)) (fun _ _ _ h => h) (Or.inl ⟨by rfl, ?_⟩) ?_ ?_
 rotate_left
 (intro w'; go_simp; with_reducible rfl)
 rotate_left
 (simp only [Act.put, List.setIfInBounds_toArray, List.set_cons_zero, List.set_cons_succ, i64_w, i32_w]; rfl)
 refine pure_ (i := 8) (N := some 4) (v := ?_) (a' := ?_) (zt 10 511) rfl rfl (any_of HT_.out (by kernel_rfl)) (fun _ _ _ h => h) (Or.inl ⟨by rfl, ?_⟩) ?_ ?_
 rotate_left
 (intro w'; go_simp; with_reducible rfl)
 rotate_left
 (simp only [Act.put, List.setIfInBounds_toArray, List.set_cons_zero, List.set_cons_succ, i64_w, i32_w]; rfl)
 refine pure_ (i := 9) (N := some 5) (v := ?_) (a' := ?_) (zt 10 1023) rfl rfl (any_of HT_.out (by kernel_rfl)) (fun _ _ _ h => h) (Or.inl ⟨by rfl, ?_⟩) ?_ ?_
 rotate_left
 (intro w'; go_simp; with_reducible rfl)
 rotate_left
 (simp only [Act.put, List.setIfInBounds_toArray, List.set_cons_zero, List.set_cons_succ, i64_w, i32_w]; rfl)
 refine done_ (done_of HT_.out (by kernel_rfl)) ?_
 try go_wp2
 refine bodyPost_ret (results_list (rs := [.cell 2 25, .tmp 3, .tmp 4, .tmp 5]) rfl (by simp) (.cell j9 25 #[.int .i64 j7, .slice jh j8.length ji] (0, 0) _ rfl (by (with_reducible repeat first | apply zbn | apply zbd | apply zba); refine pu2 (.int .i64 0) (.slice none 0 0) ?_; exact ub j2) Try.underlying25 rfl (by kernel_rfl) (.tmp (.tmp (.tmp .nil))))) rfl ?_
 exact ⟨_, _, by first | rfl | (simp [errW_none, errW_some] <;> rfl) | (simp [*, errW_none, errW_some] <;> rfl), by (with_reducible repeat (first | apply Kd.R_alloc | apply Kd.R_drewN | apply Kd.R_drew)); exact Kd.R_mono (rf2 j3 j2) (fun _ hk => trivial), by (with_reducible repeat (first | apply Kd.R_alloc | apply Kd.R_drewN | apply Kd.R_drew)); exact Kd.R_mono (rf2 je j2) (fun _ hk => trivial), uB3 HB (IsS91.ge HI104.out) ja.out jg.out⟩

end Go.Proofs.Ytblpdfgplifccaa.P
