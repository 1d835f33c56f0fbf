-- written for this claim by a program (wip/gen/myprint.py over the print tool). Not trusted: Lean checks it.
import Derived.Test.YtdlaaccnaokdnaaPx0
import Derived.Test.YtdlaaccnaokdnaaHUp
import Derived.Test.YtdlaaccnaokdnaaGSt
import Derived.Test.YtdlaaccnaokdnaaGOpen
import Derived.Test.YtdlaaccnaokdnaaPFSpecL30Node
import Derived.Test.YtdlaaccnaokdnaaHL30R
namespace Go.Proofs.Ytdlaaccnaokdnaa.P
open Go.RowKit Go.Proofs.YtdlaaccnaokdnaaV.PrintWords Go.Proofs.YtdlaaccnaokdnaaV.PrintLast
set_option linter.unusedVariables false
set_option linter.unusedSimpArgs false

/-! ### spec_DrawRankNear: function 88 -/
def spec_DrawRankNear.f (k : Nat) (l0 : List Int) : Option (Int × (List (S61)) × List Int × (List (List Int)) × (List (List Int)) × Int × Int) := (spec_l30Open.f l0).bind fun bt103 => ((spec_l30Rank.f k bt103.1 bt103.2).bind fun bt106 => ((spec_l30Node.f k bt103.1 bt106.2.2.2.2.2 bt106.1 bt106.2.1).bind fun bt122 => ((spec_l30Node.f k bt103.1 bt122.2 bt106.1 bt106.2.1).bind fun bt124 => (some (bt106.1, bt106.2.1, bt106.2.2.1, bt106.2.2.2.1, bt106.2.2.2.2.1, bt122.1, bt124.1)))))
def spec_DrawRankNear.T4 : Bool × List (List Nat × List Nat) := (true, [([], []), ([], []), ([], []), ([], []), ([], []), ([3, 4], [3, 4]), ([0, 5, 0], [0]), ([1, 6, 0, 1, 6], [1]), ([2, 7, 0, 1, 2, 6, 7], [2]), ([5, 8, 0, 1, 2, 3, 4, 5, 6, 7, 8], [5])])
def spec_DrawRankNear.B4 : List Nat := [0, 0, 0, 0, 0, 24, 57, 123, 255, 511]
theorem spec_DrawRankNear.tab4 : rtab .any (opsOf Try.f88 4) = spec_DrawRankNear.T4 := by kernel_rfl
theorem spec_DrawRankNear.bits4 : waitsOk spec_DrawRankNear.T4.2 spec_DrawRankNear.B4 = true := by kernel_rfl
set_option maxHeartbeats 8000000 in
set_option maxRecDepth 100000 in
theorem spec_DrawRankNear.calls (k : Nat) (A0 : Option Addr) (c0 : Nat) (l0 : List Int) (r1 : Int) (r2 : List (S61)) (r3 : List Int) (r4 : List (List Int)) (r5 : List (List Int)) (r6 : Int) (r7 : Int) (w : World) (hr0 : Kd.C (Kd.int .u8) w A0 l0.length l0) (hc0 : l0.length ≤ c0) (h : spec_DrawRankNear.f k l0 = some (r1, r2, r3, r4, r5, r6, r7)) :
  Calls Try.prog 88 #[.slice A0 l0.length c0] w fun e w' => ∃ v1_ v2_ v3_ v4_ : Value, e = .returned (.tuple #[.agg #[.int .i64 r1, v1_], .agg #[v2_, v3_, v4_], .int .i64 r6, .int .i64 r7]) ∧ Kd.R k61 61 w' w.heap.size (fun _ => True) v1_ r2 ∧ Kd.R (Kd.int .i64) 3 w' w.heap.size (fun _ => True) v2_ r3 ∧ Kd.S (Kd.slice 3 (Kd.int .i64)) 25 w' w.heap.size (fun k_ => some k_ ≠ (v2_ : Value).ownBlock ∧ some k_ ≠ (v4_ : Value).ownBlock) v3_ r4 ∧ Kd.S (Kd.slice 3 (Kd.int .i64)) 25 w' w.heap.size (fun k_ => some k_ ≠ (v2_ : Value).ownBlock ∧ some k_ ≠ (v3_ : Value).ownBlock) v4_ r5 ∧ Below w.heap.size w w' := by
 have hu35 := Try.underlying35
 have hu37 := Try.underlying37
 have HR0 := Aside0.mk hr0
 have HC0 := Aside0.mk hc0
 clear hr0 hc0
 have HB := Aside0.mk (Below.refl w.heap.size w)
 have H : ((spec_l30Open.f l0).bind fun bt103 => ((spec_l30Rank.f k bt103.1 bt103.2).bind fun bt106 => ((spec_l30Node.f k bt103.1 bt106.2.2.2.2.2 bt106.1 bt106.2.1).bind fun bt122 => ((spec_l30Node.f k bt103.1 bt122.2 bt106.1 bt106.2.1).bind fun bt124 => (some (bt106.1, bt106.2.1, bt106.2.2.1, bt106.2.2.2.1, bt106.2.2.2.2.1, bt122.1, bt124.1)))))) = some (r1, r2, r3, r4, r5, r6, r7) := h
 clear h
 replace H := Option.bind_eq_some_iff.mp H
 obtain ⟨⟨ji, jQ⟩, A20, H⟩ := H
 replace H : ((spec_l30Rank.f k ji jQ).bind fun bt106 => ((spec_l30Node.f k ji bt106.2.2.2.2.2 bt106.1 bt106.2.1).bind fun bt122 => ((spec_l30Node.f k ji bt122.2 bt106.1 bt106.2.1).bind fun bt124 => (some (bt106.1, bt106.2.1, bt106.2.2.1, bt106.2.2.2.1, bt106.2.2.2.2.1, bt122.1, bt124.1))))) = some (r1, r2, r3, r4, r5, r6, r7) := H
 have A2 := Aside0.mk A20
 clear A20
 replace H := Option.bind_eq_some_iff.mp H
 obtain ⟨⟨jj, jk, jr, ju, jv, jK⟩, A30, H⟩ := H
 replace H : ((spec_l30Node.f k ji jK jj jk).bind fun bt122 => ((spec_l30Node.f k ji bt122.2 jj jk).bind fun bt124 => (some (jj, jk, jr, ju, jv, bt122.1, bt124.1)))) = some (r1, r2, r3, r4, r5, r6, r7) := H
 have A3 := Aside0.mk A30
 clear A30
 replace H := Option.bind_eq_some_iff.mp H
 obtain ⟨⟨jR, jO⟩, A40, H⟩ := H
 replace H : ((spec_l30Node.f k ji jO jj jk).bind fun bt124 => (some (jj, jk, jr, ju, jv, jR, bt124.1))) = some (r1, r2, r3, r4, r5, r6, r7) := H
 have A4 := Aside0.mk A40
 clear A40
 replace H := Option.bind_eq_some_iff.mp H
 obtain ⟨⟨jS, j0x⟩, A50, H⟩ := H
 replace H : (some (jj, jk, jr, ju, jv, jR, jS)) = some (r1, r2, r3, r4, r5, r6, r7) := H
 have A5 := Aside0.mk A50
 clear A50
 simp only [Option.some.injEq, Prod.mk.injEq] at H
 obtain ⟨rfl, rfl, rfl, rfl, rfl, rfl, rfl⟩ := H
 go_enter Try.func88, Try.ntmps88
 try go_wp2_with (first | ((with_reducible refine gate_dst (N := 2) rfl ?_); refine be (cs := #[.int .i64 0, .slice none 0 0]) (t := 35) ?_; intro j8 hg w6 hbox hb; have j4 := Aside0.mk (hbox); have j0C := gz w hg (uB0 HB); have jf := gz w hg (uB0 HB); replace HB := Aside0.mk (below_step (uB0 HB) hb); clear hb hbox hg) | ((with_reducible refine gate_dst (N := 3) rfl ?_); refine be (cs := #[.slice none 0 0, .slice none 0 0, .slice none 0 0]) (t := 37) ?_; intro j3 hg w7 hbox hb; have j5 := Aside0.mk (hbox); have j0D := gz w hg (uB1 HB jf.out); have jn := gz w hg (uB1 HB jf.out); replace HB := Aside0.mk (below_step (uB1 HB jf.out) hb); have jl := gl hg j4; have jm := gr hg j4; replace j4 := bb j4 hb; clear hb hbox hg) | ((with_reducible refine gate_callee (f := 75) rfl ?_); refine goesL_ (some 11) rfl rfl Try.func75 (by kernel_rfl) rfl #[.slice A0 l0.length c0] rfl ul ?_; (with_reducible refine (spec_l30Open.calls _ _ l0 ji jQ w _ ?side1 ?side2 ?side3 A2.out).mono ?_); (case side1 => exact uB2 HB jf.out jn.out); (case side2 => exact HR0.out); (case side3 => exact HC0.out); rintro e w8 ⟨g105, rfl, hi, hb, hb2⟩; refine ⟨_, rfl, ?_⟩; replace HB := Aside0.mk (hb); have HI105 := Aside0.mk (hi); have j0 := Aside0.mk (IsS116.ne_blk hi (blk_below (g := j8) (o := .cells #[.int .i64 0, .slice none 0 0] 35 (0, 0)) (ub j4) hb2) (by decide)); have jE := Aside0.mk (Ne.symm (IsS116.ne_blk hi (blk_below (g := j8) (o := .cells #[.int .i64 0, .slice none 0 0] 35 (0, 0)) (ub j4) hb2) (by decide))); replace j4 := Aside0.mk (blk_below (g := j8) (o := .cells #[.int .i64 0, .slice none 0 0] 35 (0, 0)) (ub j4) hb2); have j1 := Aside0.mk (IsS116.ne_blk hi (blk_below (g := j3) (o := .cells #[.slice none 0 0, .slice none 0 0, .slice none 0 0] 37 (0, 0)) (ub j5) hb2) (by decide)); have jF := Aside0.mk (Ne.symm (IsS116.ne_blk hi (blk_below (g := j3) (o := .cells #[.slice none 0 0, .slice none 0 0, .slice none 0 0] 37 (0, 0)) (ub j5) hb2) (by decide))); replace j5 := Aside0.mk (blk_below (g := j3) (o := .cells #[.slice none 0 0, .slice none 0 0, .slice none 0 0] 37 (0, 0)) (ub j5) hb2); (try clear hb); (try clear hb2); (try clear hi)) | ((with_reducible refine gate_callee (f := 74) rfl ?_); refine goesL_ (some 14) rfl rfl Try.func74 (by kernel_rfl) rfl #[.pointer (some ⟨g105, 0, none⟩)] rfl ul ?_; (with_reducible refine (spec_l30Rank.calls k g105 ji jQ jj jk jr ju jv jK w _ ?side1 ?side2 A3.out).mono ?_); (case side1 => exact uI2 HI105 j0.out j1.out); (case side2 => exact uB3 HB (IsS116.ge HI105.out) jf.out jn.out); rintro e w9 ⟨v108, v111, v114, v117, rfl, ho0, ho1, ho2, ho3, hi, hb, hk⟩; refine ⟨_, rfl, ?_⟩; replace j4 := Aside0.mk (KeepBut.blk hk (g' := j8) (o := .cells #[.int .i64 0, .slice none 0 0] 35 (0, 0)) (ub j4) jE.out (by simp)); replace j5 := Aside0.mk (KeepBut.blk hk (g' := j3) (o := .cells #[.slice none 0 0, .slice none 0 0, .slice none 0 0] 37 (0, 0)) (ub j5) jF.out (by simp)); have je := Aside0.mk (Kd.R_lower ho0 (below_size (uB3 HB (IsS116.ge HI105.out) jf.out jn.out))); have jo := Aside0.mk (Kd.R_lower ho1 (below_size (uB3 HB (IsS116.ge HI105.out) jf.out jn.out))); have jp := Aside0.mk (Kd.S_lower ho2 (below_size (uB3 HB (IsS116.ge HI105.out) jf.out jn.out))); have jq := Aside0.mk (Kd.S_lower ho3 (below_size (uB3 HB (IsS116.ge HI105.out) jf.out jn.out))); replace HB := Aside0.mk (hb); replace HI105 := Aside0.mk (hi); (try clear hb); (try clear hk); (try clear hi); (try clear ho0); (try clear ho1); (try clear ho2); (try clear ho3)) | ((with_reducible refine gate_dst (N := 7) rfl ?_); refine be (cs := #[.int .i64 0, .slice none 0 0]) (t := 35) ?_; intro jg hg w10 hbox hb; replace je := Aside0.mk (Kd.R_below (ur je) hb); replace jo := Aside0.mk (Kd.R_below (ur jo) hb); replace jp := Aside0.mk (Kd.S_below (by (with_reducible repeat (first | apply Kd.S_alloc | apply Kd.S_drewN | apply Kd.S_drew)); exact jp.out) hb); replace jq := Aside0.mk (Kd.S_below (by (with_reducible repeat (first | apply Kd.S_alloc | apply Kd.S_drewN | apply Kd.S_drew)); exact jq.out) hb); have jb := Aside0.mk (hbox); have j0E := Aside0.mk ((by rw [hg]; exact (below_size (uB3 HB (IsS116.ge HI105.out) jf.out jn.out)) : w.heap.size ≤ jg)); have jL := Aside0.mk ((by rw [hg]; exact (below_size (uB3 HB (IsS116.ge HI105.out) jf.out jn.out)) : w.heap.size ≤ jg)); replace HB := Aside0.mk (below_step (uB3 HB (IsS116.ge HI105.out) jf.out jn.out) hb); have jy := gl hg j4; have jh := gr hg j4; replace j4 := bb j4 hb; have js := gl hg j5; have j9 := gr hg j5; replace j5 := bb j5 hb; have j2 := Aside0.mk ((by rw [hg]; exact Nat.ne_of_lt (IsS116.lt (show IsS116 w _ g105 ji jK from uI2 HI105 j0.out j1.out)) : g105 ≠ jg)); have jG := Aside0.mk ((by rw [hg]; exact Nat.ne_of_gt (IsS116.lt (show IsS116 w _ g105 ji jK from uI2 HI105 j0.out j1.out)) : jg ≠ g105)); replace HI105 := Aside0.mk (IsS116.below (uI2 HI105 j0.out j1.out) hb); clear hb hbox hg) | ((with_reducible refine gate_dst (N := 8) rfl ?_); refine be (cs := #[.slice none 0 0, .slice none 0 0, .slice none 0 0]) (t := 37) ?_; intro ja hg w11 hbox hb; replace je := Aside0.mk (Kd.R_below (ur je) hb); replace jo := Aside0.mk (Kd.R_below (ur jo) hb); replace jp := Aside0.mk (Kd.S_below (by (with_reducible repeat (first | apply Kd.S_alloc | apply Kd.S_drewN | apply Kd.S_drew)); exact jp.out) hb); replace jq := Aside0.mk (Kd.S_below (by (with_reducible repeat (first | apply Kd.S_alloc | apply Kd.S_drewN | apply Kd.S_drew)); exact jq.out) hb); have jd := Aside0.mk (hbox); have j0F := Aside0.mk ((by rw [hg]; exact (below_size (uB4 HB (IsS116.ge HI105.out) jf.out jn.out jL.out)) : w.heap.size ≤ ja)); have jP := Aside0.mk ((by rw [hg]; exact (below_size (uB4 HB (IsS116.ge HI105.out) jf.out jn.out jL.out)) : w.heap.size ≤ ja)); replace HB := Aside0.mk (below_step (uB4 HB (IsS116.ge HI105.out) jf.out jn.out jL.out) hb); have jz := gl hg j4; have jc := gr hg j4; replace j4 := bb j4 hb; have jt := gl hg j5; have j6 := gr hg j5; replace j5 := bb j5 hb; have jM := gl hg jb; have jN := gr hg jb; replace jb := bb jb hb; have j7 := Aside0.mk ((by rw [hg]; exact Nat.ne_of_lt (IsS116.lt (show IsS116 w _ g105 ji jK from uI3 HI105 j0.out j1.out j2.out)) : g105 ≠ ja)); have jH := Aside0.mk ((by rw [hg]; exact Nat.ne_of_gt (IsS116.lt (show IsS116 w _ g105 ji jK from uI3 HI105 j0.out j1.out j2.out)) : ja ≠ g105)); replace HI105 := Aside0.mk (IsS116.below (uI3 HI105 j0.out j1.out j2.out) hb); clear hb hbox hg; have j0G := jh.out; have j0H := jy.out; have j0I := j9.out; have j0J := js.out; have j0K := jM.out; have j0L := jN.out; have j0M := jG.out; have j0N := j2.out; obtain ⟨jT, jU, jV, jW⟩ := bc2 jb; obtain ⟨jA, jB, j0y⟩ := Kd.R_slice je.out; subst j0y; obtain ⟨jw, jx, j0z⟩ := Kd.R_slice jo.out; subst j0z; have j0O := jc.out; have j0P := jz.out; have j0Q := j6.out; have j0R := jt.out; have j0S := jH.out; have j0T := j7.out; obtain ⟨jX, jY, jZ, j00, j01, j02⟩ := bc3 jd; obtain ⟨jC, jD, j0A⟩ := Kd.S_slice jp.out; subst j0A; obtain ⟨jI, jJ, j0B⟩ := Kd.S_slice jq.out; subst j0B) | ((with_reducible refine gate_callee (f := 122) rfl ?_); refine goesL_ (some 19) rfl rfl Try.func122 (by kernel_rfl) rfl #[.pointer (some ⟨g105, 0, none⟩), .agg #[.int .i64 jj, .slice jA jk.length jB]] rfl ul ?_; (with_reducible refine (spec_l30Node.calls k g105 ji jK jj _ _ jk jR jO w _ ?side1 ?side2 ?side3 ?side4 A4.out).mono ?_); (case side1 => exact uI4 HI105 j0.out j1.out j2.out j7.out); (case side2 => exact uB5 HB (IsS116.ge HI105.out) jf.out jn.out jL.out jP.out); (case side3 => exact Kd.C_foot_own (IsS116.apart (show IsS116 w _ g105 ji jK from uI4 HI105 j0.out j1.out j2.out j7.out) (by (with_reducible repeat (first | apply Kd.R_alloc | apply Kd.R_drewN | apply Kd.R_drew)); exact (Kd.R_mono (Kd.R_mono (Kd.R_far (p := ⟨ja, 2, none⟩) (Kd.R_far (p := ⟨ja, 1, none⟩) (Kd.R_far (p := ⟨ja, 0, none⟩) (Kd.R_far (p := ⟨jg, 1, none⟩) (Kd.R_far (p := ⟨jg, 0, none⟩) (Kd.R_types (Kd.R_types je.out jb.out (by decide)) jd.out (by decide)) (fun _ hk => hk.1.2) (.int .i64 jj)) (fun _ hk => hk.1.2) (.slice jA jk.length jB)) (fun _ hk => hk.2) (.slice jw jr.length jx)) (fun _ hk => hk.2) (.slice jC ju.length jD)) (fun _ hk => hk.2) (.slice jI jv.length jJ)) (fun _ h_ => h_.1)) (fun _ h_ => h_.1))) (by decide)) (fun _ h_ => h_.2)); (case side4 => exact (Kd.R_reads' je.out).2.1); rintro e w25 ⟨rfl, hi, hb, hk⟩; refine ⟨_, rfl, ?_⟩; replace j4 := Aside0.mk (KeepBut.blk hk (g' := j8) (o := .cells #[.int .i64 0, .slice none 0 0] 35 (0, 0)) (by (with_reducible repeat first | apply zbn | apply zbd | apply zba); refine fa3 ?_ jz; (with_reducible repeat first | apply zbn | apply zbd | apply zba); refine fa2 ?_ jy; exact ub j4) jE.out (by simp)); replace j5 := Aside0.mk (KeepBut.blk hk (g' := j3) (o := .cells #[.slice none 0 0, .slice none 0 0, .slice none 0 0] 37 (0, 0)) (by (with_reducible repeat first | apply zbn | apply zbd | apply zba); refine fa3 ?_ jt; (with_reducible repeat first | apply zbn | apply zbd | apply zba); refine fa2 ?_ js; exact ub j5) jF.out (by simp)); replace je := Aside0.mk (Kd.R_mono (Kd.R_keep (IsS116.apart (show IsS116 w _ g105 ji jK from uI4 HI105 j0.out j1.out j2.out j7.out) (by (with_reducible repeat (first | apply Kd.R_alloc | apply Kd.R_drewN | apply Kd.R_drew)); exact (Kd.R_mono (Kd.R_mono (Kd.R_far (p := ⟨ja, 2, none⟩) (Kd.R_far (p := ⟨ja, 1, none⟩) (Kd.R_far (p := ⟨ja, 0, none⟩) (Kd.R_far (p := ⟨jg, 1, none⟩) (Kd.R_far (p := ⟨jg, 0, none⟩) (Kd.R_types (Kd.R_types je.out jb.out (by decide)) jd.out (by decide)) (fun _ hk => hk.1.2) (.int .i64 jj)) (fun _ hk => hk.1.2) (.slice jA jk.length jB)) (fun _ hk => hk.2) (.slice jw jr.length jx)) (fun _ hk => hk.2) (.slice jC ju.length jD)) (fun _ hk => hk.2) (.slice jI jv.length jJ)) (fun _ h_ => h_.1)) (fun _ h_ => h_.1))) (by decide)) hk (fun _ h => h.2)) (fun _ h => h.1)); replace jo := Aside0.mk (Kd.R_mono (Kd.R_keep (IsS116.apart (show IsS116 w _ g105 ji jK from uI4 HI105 j0.out j1.out j2.out j7.out) (by (with_reducible repeat (first | apply Kd.R_alloc | apply Kd.R_drewN | apply Kd.R_drew)); exact (Kd.R_mono (Kd.R_mono (Kd.R_far (p := ⟨ja, 2, none⟩) (Kd.R_far (p := ⟨ja, 1, none⟩) (Kd.R_far (p := ⟨ja, 0, none⟩) (Kd.R_far (p := ⟨jg, 1, none⟩) (Kd.R_far (p := ⟨jg, 0, none⟩) (Kd.R_types (Kd.R_types jo.out jb.out (by decide)) jd.out (by decide)) (fun _ hk => hk.1.2) (.int .i64 jj)) (fun _ hk => hk.1.2) (.slice jA jk.length jB)) (fun _ hk => hk.2) (.slice jw jr.length jx)) (fun _ hk => hk.2) (.slice jC ju.length jD)) (fun _ hk => hk.2) (.slice jI jv.length jJ)) (fun _ h_ => h_.1)) (fun _ h_ => h_.1))) (by decide)) hk (fun _ h => h.2)) (fun _ h => h.1)); replace jp := Aside0.mk (Kd.S_mono (Kd.S_keep (IsS116.apartS (show IsS116 w _ g105 ji jK from uI4 HI105 j0.out j1.out j2.out j7.out) (by (with_reducible repeat (first | apply Kd.S_alloc | apply Kd.S_drewN | apply Kd.S_drew)); exact (Kd.S_mono (Kd.S_mono (Kd.S_far (p := ⟨ja, 2, none⟩) (Kd.S_far (p := ⟨ja, 1, none⟩) (Kd.S_far (p := ⟨ja, 0, none⟩) (Kd.S_far (p := ⟨jg, 1, none⟩) (Kd.S_far (p := ⟨jg, 0, none⟩) (Kd.S_types (Kd.S_types jp.out jb.out (by decide)) jd.out (by decide)) (fun _ hk => hk.1.2) (.int .i64 jj)) (fun _ hk => hk.1.2) (.slice jA jk.length jB)) (fun _ hk => hk.2) (.slice jw jr.length jx)) (fun _ hk => hk.2) (.slice jC ju.length jD)) (fun _ hk => hk.2) (.slice jI jv.length jJ)) (fun _ h_ => h_.1)) (fun _ h_ => h_.1))) (by decide)) hk (fun _ h => h.2)) (fun _ h => h.1)); replace jq := Aside0.mk (Kd.S_mono (Kd.S_keep (IsS116.apartS (show IsS116 w _ g105 ji jK from uI4 HI105 j0.out j1.out j2.out j7.out) (by (with_reducible repeat (first | apply Kd.S_alloc | apply Kd.S_drewN | apply Kd.S_drew)); exact (Kd.S_mono (Kd.S_mono (Kd.S_far (p := ⟨ja, 2, none⟩) (Kd.S_far (p := ⟨ja, 1, none⟩) (Kd.S_far (p := ⟨ja, 0, none⟩) (Kd.S_far (p := ⟨jg, 1, none⟩) (Kd.S_far (p := ⟨jg, 0, none⟩) (Kd.S_types (Kd.S_types jq.out jb.out (by decide)) jd.out (by decide)) (fun _ hk => hk.1.2) (.int .i64 jj)) (fun _ hk => hk.1.2) (.slice jA jk.length jB)) (fun _ hk => hk.2) (.slice jw jr.length jx)) (fun _ hk => hk.2) (.slice jC ju.length jD)) (fun _ hk => hk.2) (.slice jI jv.length jJ)) (fun _ h_ => h_.1)) (fun _ h_ => h_.1))) (by decide)) hk (fun _ h => h.2)) (fun _ h => h.1)); replace jb := Aside0.mk (KeepBut.blk hk (g' := jg) (o := .cells #[.int .i64 jj, .slice jA jk.length jB] 35 (0, 0)) (by (with_reducible repeat first | apply zbn | apply zbd | apply zba); refine fa3 ?_ jM; (with_reducible repeat first | apply zbn | apply zbd | apply zba); refine pu2 (.int .i64 0) (.slice none 0 0) ?_; exact ub jb) jG.out (by simp)); replace jd := Aside0.mk (KeepBut.blk hk (g' := ja) (o := .cells #[.slice jw jr.length jx, .slice jC ju.length jD, .slice jI jv.length jJ] 37 (0, 0)) (by (with_reducible repeat first | apply zbn | apply zbd | apply zba); refine blk_put (cs := #[.slice jw jr.length jx, .slice jC ju.length jD, .slice none 0 0]) ?_ 2 _ rfl; (with_reducible repeat first | apply zbn | apply zbd | apply zba); refine blk_put (cs := #[.slice jw jr.length jx, .slice none 0 0, .slice none 0 0]) ?_ 1 _ rfl; (with_reducible repeat first | apply zbn | apply zbd | apply zba); refine blk_put (cs := #[.slice none 0 0, .slice none 0 0, .slice none 0 0]) ?_ 0 _ rfl; (with_reducible repeat first | apply zbn | apply zbd | apply zba); refine fa2 ?_ jN; exact ub jd) jH.out (by simp)); replace HB := Aside0.mk (hb); replace HI105 := Aside0.mk (hi); (try clear hb); (try clear hk); (try clear hi)))
 have n0_ := Aside0.mk (Kd.R_drew je.out)
 have n1_ := Aside0.mk (Kd.R_drew jo.out)
 have n2_ := Aside0.mk (Kd.S_drew jp.out)
 have n3_ := Aside0.mk (Kd.S_drew jq.out)
 have n4_ := Aside0.mk (blk_drew j4.out)
 have n5_ := Aside0.mk (blk_drew j5.out)
 have n6_ := Aside0.mk (blk_drew jb.out)
 have n7_ := Aside0.mk (blk_drew jd.out)
 have n8_ := Aside0.mk (IsS116.drew HI105.out)
 have n9_ := Aside0.mk (below_drew1 HB.out)
 clear je
 clear jo
 clear jp
 clear jq
 clear j4
 clear j5
 clear jb
 clear jd
 clear HI105
 clear HB
 have je := n0_
 have jo := n1_
 have jp := n2_
 have jq := n3_
 have j4 := n4_
 have j5 := n5_
 have jb := n6_
 have jd := n7_
 have HI105 := n8_
 have HB := n9_
 clear n0_ n1_ n2_ n3_ n4_ n5_ n6_ n7_ n8_ n9_
 refine start_ (n := 10) (S := fun w' => w'.cell? ⟨jg, 0, none⟩ = some (.int .i64 jj) ∧ w'.cell? ⟨jg, 1, none⟩ = some (.slice jA jk.length jB) ∧ w'.cell? ⟨ja, 0, none⟩ = some (.slice jw jr.length jx) ∧ w'.cell? ⟨ja, 1, none⟩ = some (.slice jC ju.length jD) ∧ w'.cell? ⟨ja, 2, none⟩ = some (.slice jI jv.length jJ)) (ds := []) (zt 10 0) (by kernel_rfl) rfl (by kernel_rfl) ⟨(blk_cell jb.out 0).trans rfl, (blk_cell jb.out 1).trans rfl, (blk_cell jd.out 0).trans rfl, (blk_cell jd.out 1).trans rfl, (blk_cell jd.out 2).trans rfl⟩ (fun hHeld => ?_); refine with_tabW spec_DrawRankNear.tab4 spec_DrawRankNear.bits4 (fun HT_ HW_ => ?_)
 generalize w25.drew = w26 at je jo jp jq j4 j5 jb jd HI105 HB hHeld ⊢
 refine pure_ (i := 2) (N := some 22) (v := ?_) (a' := ?_) (zt 10 4) rfl rfl (any_of HT_.out (by kernel_rfl)) (fun _ _ _ h => h) (Or.inl ⟨by rfl, ?_⟩) ?_ ?_
 rotate_left
 (intro w'; go_simp; with_reducible rfl)
 rotate_left
 (simp only [Act.put, List.setIfInBounds_toArray, List.set_cons_zero, List.set_cons_succ, i64_w, i32_w]; rfl)
 refine pure_ (i := 3) (N := some 23) (v := ?_) (a' := ?_) (zt 10 12) rfl rfl (any_of HT_.out (by kernel_rfl)) (fun _ _ _ h => h) (Or.inl ⟨by rfl, ?_⟩) ?_ ?_
 rotate_left
 (intro w'; go_simp; with_reducible rfl)
 rotate_left
 (simp only [Act.put, List.setIfInBounds_toArray, List.set_cons_zero, List.set_cons_succ, i64_w, i32_w]; rfl)
 refine take_ (i := 0) (N := some 20) (v := ?_) (a' := ?_) (zt 10 13) rfl rfl (take_ofW HT_.out HW_.out (by kernel_rfl)) (fun _ _ _ h => h) (Or.inl ⟨by rfl, ?_⟩) hHeld ?_ ?_
 rotate_left
 (rintro w' ⟨s0, s1, s2, s3, s4⟩; go_simp; with_reducible rfl)
 rotate_left
 (simp only [Act.put, List.setIfInBounds_toArray, List.set_cons_zero, List.set_cons_succ, i64_w, i32_w]; rfl)
 refine take_ (i := 1) (N := some 21) (v := ?_) (a' := ?_) (zt 10 15) rfl rfl (take_ofW HT_.out HW_.out (by kernel_rfl)) (fun _ _ _ h => h) (Or.inl ⟨by rfl, ?_⟩) hHeld ?_ ?_
 rotate_left
 (rintro w' ⟨s0, s1, s2, s3, s4⟩; go_simp; with_reducible rfl)
 rotate_left
 (simp only [Act.put, List.setIfInBounds_toArray, List.set_cons_zero, List.set_cons_succ, i64_w, i32_w]; rfl)
 refine take_ (i := 4) (N := some 24) (v := ?_) (a' := ?_) (zt 10 31) rfl rfl (take_ofW HT_.out HW_.out (by kernel_rfl)) (fun _ _ _ h => h) (Or.inl ⟨by rfl, ?_⟩) hHeld ?_ ?_
 rotate_left
 (rintro w' ⟨s0, s1, s2, s3, s4⟩; go_simp; with_reducible rfl)
 rotate_left
 (simp only [Act.put, List.setIfInBounds_toArray, List.set_cons_zero, List.set_cons_succ, i64_w, i32_w]; rfl)
 refine qo HT_ 5 (fun K hK => ?_)
 refine goes_ Try.func122 (by kernel_rfl) rfl #[.pointer (some ⟨g105, 0, none⟩), .agg #[.int .i64 jj, .slice jA jk.length jB]] (by rfl) rfl rfl ul ?_
 with_reducible refine (spec_l30Node.calls k g105 ji jO jj _ _ jk jS j0x w _ ?side1 ?side2 ?side3 ?side4 A5.out).mono ?_
 (case side1 => exact uI4 HI105 j0.out j1.out j2.out j7.out)
 (case side2 => exact uB5 HB (IsS116.ge HI105.out) jf.out jn.out jL.out jP.out)
 (case side3 => exact Kd.C_foot_own (IsS116.apart (show IsS116 w _ g105 ji jO from uI4 HI105 j0.out j1.out j2.out j7.out) (ur je) (by decide)) (fun _ h_ => h_.2))
 (case side4 => exact (Kd.R_reads' je.out).2.1)
 rintro e w27 ⟨rfl, hi, hb, hk⟩
 refine ⟨_, rfl, ?_⟩
 have n0_ := Aside0.mk (KeepBut.blk hk (g' := j8) (o := .cells #[.int .i64 0, .slice none 0 0] 35 (0, 0)) (ub j4) jE.out (by simp))
 have n1_ := Aside0.mk (KeepBut.blk hk (g' := j3) (o := .cells #[.slice none 0 0, .slice none 0 0, .slice none 0 0] 37 (0, 0)) (ub j5) jF.out (by simp))
 have n2_ := Aside0.mk (Kd.R_mono (Kd.R_keep (IsS116.apart (show IsS116 w _ g105 ji jO from uI4 HI105 j0.out j1.out j2.out j7.out) (ur je) (by decide)) hk (fun _ h => h.2)) (fun _ h => h.1))
 have n3_ := Aside0.mk (Kd.R_mono (Kd.R_keep (IsS116.apart (show IsS116 w _ g105 ji jO from uI4 HI105 j0.out j1.out j2.out j7.out) (ur jo) (by decide)) hk (fun _ h => h.2)) (fun _ h => h.1))
 have n4_ := Aside0.mk (Kd.S_mono (Kd.S_keep (IsS116.apartS (show IsS116 w _ g105 ji jO from uI4 HI105 j0.out j1.out j2.out j7.out) (by (with_reducible repeat (first | apply Kd.S_alloc | apply Kd.S_drewN | apply Kd.S_drew)); exact jp.out) (by decide)) hk (fun _ h => h.2)) (fun _ h => h.1))
 have n5_ := Aside0.mk (Kd.S_mono (Kd.S_keep (IsS116.apartS (show IsS116 w _ g105 ji jO from uI4 HI105 j0.out j1.out j2.out j7.out) (by (with_reducible repeat (first | apply Kd.S_alloc | apply Kd.S_drewN | apply Kd.S_drew)); exact jq.out) (by decide)) hk (fun _ h => h.2)) (fun _ h => h.1))
 have n6_ := Aside0.mk (KeepBut.blk hk (g' := jg) (o := .cells #[.int .i64 jj, .slice jA jk.length jB] 35 (0, 0)) (ub jb) jG.out (by simp))
 have n7_ := Aside0.mk (KeepBut.blk hk (g' := ja) (o := .cells #[.slice jw jr.length jx, .slice jC ju.length jD, .slice jI jv.length jJ] 37 (0, 0)) (ub jd) jH.out (by simp))
 have n8_ := Aside0.mk (hb)
 have n9_ := Aside0.mk (hi)
 clear j4
 clear j5
 clear je
 clear jo
 clear jp
 clear jq
 clear jb
 clear jd
 clear HB
 clear HI105
 have j4 := n0_
 have j5 := n1_
 have je := n2_
 have jo := n3_
 have jp := n4_
 have jq := n5_
 have jb := n6_
 have jd := n7_
 have HB := n8_
 have HI105 := n9_
 clear n0_ n1_ n2_ n3_ n4_ n5_ n6_ n7_ n8_ n9_
 (try clear hb)
 (try clear hk)
 (try clear hi)
 refine hK.out _ _ ⟨(blk_cell jb.out 0).trans rfl, (blk_cell jb.out 1).trans rfl, (blk_cell jd.out 0).trans rfl, (blk_cell jd.out 1).trans rfl, (blk_cell jd.out 2).trans rfl⟩ (fun hHeld => ?_)
 clear hK K
 refine norm_ (a' := ?_) ?_ ?_
 rotate_left
 ·
  show Act.put _ (some 25) _ = _
  simp only [Act.put, List.setIfInBounds_toArray, List.set_cons_zero, List.set_cons_succ, i64_w, i32_w]; rfl
 refine qo HT_ 6 (fun K hK => ?_)
 have j0Z : w27.cell? ⟨j8, 0, none⟩ = some (.int .i64 0) := (blk_cell j4.out 0).trans rfl
 have j0U := blk_frozen j4.out 0
 have j03 := jm.out
 have j04 := jh.out
 have j05 := jc.out
 have j06 := jl.out
 have j07 := jy.out
 have j08 := jz.out
 have j10 : w27.cell? ⟨j8, 1, none⟩ = some (.slice none 0 0) := (blk_cell j4.out 1).trans rfl
 have j0V := blk_frozen j4.out 1
 have j09 := jm.out
 have j0a := jh.out
 have j0b := jc.out
 have j0c := jl.out
 have j0d := jy.out
 have j0e := jz.out
 refine skip_ (w1 := ?_) (by rfl) rfl ?_ ?_
 rotate_left
 ·
  go_simp; rfl
 refine hK.out _ _ ⟨((cell_far (p := ⟨j8, _, none⟩) jh.out _).trans (((cell_far (p := ⟨j8, _, none⟩) jh.out _).trans (hHeld.1)))), ((cell_far (p := ⟨j8, _, none⟩) jh.out _).trans (((cell_far (p := ⟨j8, _, none⟩) jh.out _).trans (hHeld.2.1)))), ((cell_far (p := ⟨j8, _, none⟩) jc.out _).trans (((cell_far (p := ⟨j8, _, none⟩) jc.out _).trans (hHeld.2.2.1)))), ((cell_far (p := ⟨j8, _, none⟩) jc.out _).trans (((cell_far (p := ⟨j8, _, none⟩) jc.out _).trans (hHeld.2.2.2.1)))), ((cell_far (p := ⟨j8, _, none⟩) jc.out _).trans (((cell_far (p := ⟨j8, _, none⟩) jc.out _).trans (hHeld.2.2.2.2))))⟩ (fun hHeld => ?_)
 clear hK K
 refine qo HT_ 7 (fun K hK => ?_)
 have j11 : w27.cell? ⟨j3, 0, none⟩ = some (.slice none 0 0) := (blk_cell j5.out 0).trans rfl
 have j0W := blk_frozen j5.out 0
 have j0f := jl.out
 have j0g := j9.out
 have j0h := j6.out
 have j0i := jm.out
 have j0j := js.out
 have j0k := jt.out
 have j12 : w27.cell? ⟨j3, 1, none⟩ = some (.slice none 0 0) := (blk_cell j5.out 1).trans rfl
 have j0X := blk_frozen j5.out 1
 have j0l := jl.out
 have j0m := j9.out
 have j0n := j6.out
 have j0o := jm.out
 have j0p := js.out
 have j0q := jt.out
 have j13 : w27.cell? ⟨j3, 2, none⟩ = some (.slice none 0 0) := (blk_cell j5.out 2).trans rfl
 have j0Y := blk_frozen j5.out 2
 have j0r := jl.out
 have j0s := j9.out
 have j0t := j6.out
 have j0u := jm.out
 have j0v := js.out
 have j0w := jt.out
 refine skip_ (w1 := ?_) (by rfl) rfl ?_ ?_
 rotate_left
 ·
  go_simp; rfl
 refine hK.out _ _ ⟨((cell_far (p := ⟨j3, _, none⟩) j9.out _).trans (((cell_far (p := ⟨j3, _, none⟩) j9.out _).trans (((cell_far (p := ⟨j3, _, none⟩) j9.out _).trans (hHeld.1)))))), ((cell_far (p := ⟨j3, _, none⟩) j9.out _).trans (((cell_far (p := ⟨j3, _, none⟩) j9.out _).trans (((cell_far (p := ⟨j3, _, none⟩) j9.out _).trans (hHeld.2.1)))))), ((cell_far (p := ⟨j3, _, none⟩) j6.out _).trans (((cell_far (p := ⟨j3, _, none⟩) j6.out _).trans (((cell_far (p := ⟨j3, _, none⟩) j6.out _).trans (hHeld.2.2.1)))))), ((cell_far (p := ⟨j3, _, none⟩) j6.out _).trans (((cell_far (p := ⟨j3, _, none⟩) j6.out _).trans (((cell_far (p := ⟨j3, _, none⟩) j6.out _).trans (hHeld.2.2.2.1)))))), ((cell_far (p := ⟨j3, _, none⟩) j6.out _).trans (((cell_far (p := ⟨j3, _, none⟩) j6.out _).trans (((cell_far (p := ⟨j3, _, none⟩) j6.out _).trans (hHeld.2.2.2.2))))))⟩ (fun hHeld => ?_)
 clear hK K
 refine pure_ (i := 8) (N := some 4) (v := ?_) (a' := ?_) (zt 10 511) rfl rfl (any_of HT_.out (by kernel_rfl)) (fun _ _ _ h => h) (Or.inl ⟨by rfl, ?_⟩) ?_ ?_
 rotate_left
 (intro w'; go_simp; with_reducible rfl)
 rotate_left
 (simp only [Act.put, List.setIfInBounds_toArray, List.set_cons_zero, List.set_cons_succ, i64_w, i32_w]; rfl)
 refine pure_ (i := 9) (N := some 5) (v := ?_) (a' := ?_) (zt 10 1023) rfl rfl (any_of HT_.out (by kernel_rfl)) (fun _ _ _ h => h) (Or.inl ⟨by rfl, ?_⟩) ?_ ?_
 rotate_left
 (intro w'; go_simp; with_reducible rfl)
 rotate_left
 (simp only [Act.put, List.setIfInBounds_toArray, List.set_cons_zero, List.set_cons_succ, i64_w, i32_w]; rfl)
 refine done_ (done_of HT_.out (by kernel_rfl)) ?_
 try go_wp2
 refine bodyPost_ret (results_list (rs := [.cell 2 35, .cell 3 37, .tmp 4, .tmp 5]) rfl (by simp) (.cell j8 35 #[.int .i64 jj, .slice jA jk.length jB] (0, 0) _ rfl (by (with_reducible repeat first | apply zbn | apply zbd | apply zba); refine fa3 ?_ jl; (with_reducible repeat first | apply zbn | apply zbd | apply zba); refine pu2 (.int .i64 0) (.slice none 0 0) ?_; exact ub j4) Try.underlying35 rfl (by kernel_rfl) (.cell j3 37 #[.slice jw jr.length jx, .slice jC ju.length jD, .slice jI jv.length jJ] (0, 0) _ rfl (by (with_reducible repeat first | apply zbn | apply zbd | apply zba); refine blk_put (cs := #[.slice jw jr.length jx, .slice jC ju.length jD, .slice none 0 0]) ?_ 2 _ rfl; (with_reducible repeat first | apply zbn | apply zbd | apply zba); refine blk_put (cs := #[.slice jw jr.length jx, .slice none 0 0, .slice none 0 0]) ?_ 1 _ rfl; (with_reducible repeat first | apply zbn | apply zbd | apply zba); refine blk_put (cs := #[.slice none 0 0, .slice none 0 0, .slice none 0 0]) ?_ 0 _ rfl; (with_reducible repeat first | apply zbn | apply zbd | apply zba); refine fa2 ?_ jm; exact ub j5) Try.underlying37 rfl (by kernel_rfl) (.tmp (.tmp .nil))))) rfl ?_
 exact ⟨_, _, _, _, by first | rfl | (simp [errW_none, errW_some] <;> rfl) | (simp [*, errW_none, errW_some] <;> rfl), by (with_reducible repeat (first | apply Kd.R_alloc | apply Kd.R_drewN | apply Kd.R_drew)); exact Kd.R_mono (Kd.R_far (p := ⟨j3, 2, none⟩) (Kd.R_far (p := ⟨j3, 1, none⟩) (Kd.R_far (p := ⟨j3, 0, none⟩) (Kd.R_far (p := ⟨j8, 1, none⟩) (Kd.R_far (p := ⟨j8, 0, none⟩) (Kd.R_types (Kd.R_types je.out j4.out (by decide)) j5.out (by decide)) (fun _ hk => hk.1.2) (.int .i64 jj)) (fun _ hk => hk.1.2) (.slice jA jk.length jB)) (fun _ hk => hk.2) (.slice jw jr.length jx)) (fun _ hk => hk.2) (.slice jC ju.length jD)) (fun _ hk => hk.2) (.slice jI jv.length jJ)) (fun _ hk => trivial), by (with_reducible repeat (first | apply Kd.R_alloc | apply Kd.R_drewN | apply Kd.R_drew)); exact Kd.R_mono (Kd.R_far (p := ⟨j3, 2, none⟩) (Kd.R_far (p := ⟨j3, 1, none⟩) (Kd.R_far (p := ⟨j3, 0, none⟩) (Kd.R_far (p := ⟨j8, 1, none⟩) (Kd.R_far (p := ⟨j8, 0, none⟩) (Kd.R_types (Kd.R_types jo.out j4.out (by decide)) j5.out (by decide)) (fun _ hk => hk.1.2) (.int .i64 jj)) (fun _ hk => hk.1.2) (.slice jA jk.length jB)) (fun _ hk => hk.2) (.slice jw jr.length jx)) (fun _ hk => hk.2) (.slice jC ju.length jD)) (fun _ hk => hk.2) (.slice jI jv.length jJ)) (fun _ hk => trivial), by (with_reducible repeat (first | apply Kd.S_alloc | apply Kd.S_drewN | apply Kd.S_drew)); exact Kd.S_mono (Kd.S_far (p := ⟨j3, 2, none⟩) (Kd.S_far (p := ⟨j3, 1, none⟩) (Kd.S_far (p := ⟨j3, 0, none⟩) (Kd.S_far (p := ⟨j8, 1, none⟩) (Kd.S_far (p := ⟨j8, 0, none⟩) (Kd.S_types (Kd.S_types jp.out j4.out (by decide)) j5.out (by decide)) (fun _ hk => hk.1.2) (.int .i64 jj)) (fun _ hk => hk.1.2) (.slice jA jk.length jB)) (fun _ hk => hk.2) (.slice jw jr.length jx)) (fun _ hk => hk.2) (.slice jC ju.length jD)) (fun _ hk => hk.2) (.slice jI jv.length jJ)) (fun _ hk => ⟨hk.1.1.1, hk.1.1.2⟩), by (with_reducible repeat (first | apply Kd.S_alloc | apply Kd.S_drewN | apply Kd.S_drew)); exact Kd.S_mono (Kd.S_far (p := ⟨j3, 2, none⟩) (Kd.S_far (p := ⟨j3, 1, none⟩) (Kd.S_far (p := ⟨j3, 0, none⟩) (Kd.S_far (p := ⟨j8, 1, none⟩) (Kd.S_far (p := ⟨j8, 0, none⟩) (Kd.S_types (Kd.S_types jq.out j4.out (by decide)) j5.out (by decide)) (fun _ hk => hk.1.2) (.int .i64 jj)) (fun _ hk => hk.1.2) (.slice jA jk.length jB)) (fun _ hk => hk.2) (.slice jw jr.length jx)) (fun _ hk => hk.2) (.slice jC ju.length jD)) (fun _ hk => hk.2) (.slice jI jv.length jJ)) (fun _ hk => ⟨hk.1.1.1, hk.1.1.2⟩), uB5 HB (IsS116.ge HI105.out) jf.out jn.out jL.out jP.out⟩

end Go.Proofs.Ytdlaaccnaokdnaa.P
