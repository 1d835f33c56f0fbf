-- written for this claim by a program (wip/gen/myprint.py over the print tool). Not trusted: Lean checks it.
import Derived.Test.YtdlaaccnaokdnaaPx0
import Derived.Test.YtdlaaccnaokdnaaHUp
import Derived.Test.YtdlaaccnaokdnaaGSt
import Derived.Test.YtdlaaccnaokdnaaGOpen
import Derived.Test.YtdlaaccnaokdnaaPFSpecL30Costs
import Derived.Test.YtdlaaccnaokdnaaHL30R
namespace Go.Proofs.Ytdlaaccnaokdnaa.P
open Go.RowKit Go.Proofs.YtdlaaccnaokdnaaV.PrintWords Go.Proofs.YtdlaaccnaokdnaaV.PrintLast Go.Proofs.YtdlaaccnaokdnaaV.PrintMore
set_option linter.unusedVariables false
set_option linter.unusedSimpArgs false

/-! ### spec_DrawCostRank: function 47 -/
def spec_DrawCostRank.f (k : Nat) (l0 : List Int) : Option (Int × (List (S61)) × List Int × (List (List Int)) × (List (List Int)) × List Int) := (spec_l30Open.f l0).bind fun bt103 => ((spec_l30Rank.f k bt103.1 bt103.2).bind fun bt106 => ((spec_l30Costs.f k bt103.1 bt106.2.2.2.2.2 bt106.1 bt106.2.1).bind fun bt122 => (some (bt106.1, bt106.2.1, bt106.2.2.1, bt106.2.2.2.1, bt106.2.2.2.2.1, bt122.1))))
def spec_DrawCostRank.T3 : Bool × List (List Nat × List Nat) := (true, [([], []), ([], []), ([], []), ([], []), ([2, 3], [2, 3]), ([0, 4, 0], [0]), ([1, 5, 0, 1, 5], [1]), ([4, 6, 0, 1, 2, 3, 4, 5, 6], [4])])
def spec_DrawCostRank.B3 : List Nat := [0, 0, 0, 0, 12, 29, 63, 127]
theorem spec_DrawCostRank.tab3 : rtab .any (opsOf Try.f47 3) = spec_DrawCostRank.T3 := by kernel_rfl
theorem spec_DrawCostRank.bits3 : waitsOk spec_DrawCostRank.T3.2 spec_DrawCostRank.B3 = true := by kernel_rfl
set_option maxHeartbeats 8000000 in
set_option maxRecDepth 100000 in
theorem spec_DrawCostRank.calls (k : Nat) (A0 : Option Addr) (c0 : Nat) (l0 : List Int) (r1 : Int) (r2 : List (S61)) (r3 : List Int) (r4 : List (List Int)) (r5 : List (List Int)) (r6 : List Int) (w : World) (hr0 : Kd.C (Kd.int .u8) w A0 l0.length l0) (hc0 : l0.length ≤ c0) (h : spec_DrawCostRank.f k l0 = some (r1, r2, r3, r4, r5, r6)) :
  Calls Try.prog 47 #[.slice A0 l0.length c0] w fun e w' => ∃ v1_ v2_ v3_ v4_ v5_ : Value, e = .returned (.tuple #[.agg #[.int .i64 r1, v1_], .agg #[v2_, v3_, v4_], v5_]) ∧ Kd.R k61 61 w' w.heap.size (fun _ => True) v1_ r2 ∧ Kd.R (Kd.int .i64) 3 w' w.heap.size (fun k_ => some k_ ≠ (v5_ : Value).ownBlock) v2_ r3 ∧ Kd.S (Kd.slice 3 (Kd.int .i64)) 25 w' w.heap.size (fun k_ => some k_ ≠ (v2_ : Value).ownBlock ∧ some k_ ≠ (v4_ : Value).ownBlock ∧ some k_ ≠ (v5_ : Value).ownBlock) v3_ r4 ∧ Kd.S (Kd.slice 3 (Kd.int .i64)) 25 w' w.heap.size (fun k_ => some k_ ≠ (v2_ : Value).ownBlock ∧ some k_ ≠ (v3_ : Value).ownBlock ∧ some k_ ≠ (v5_ : Value).ownBlock) v4_ r5 ∧ Kd.R (Kd.int .i64) 3 w' w.heap.size (fun k_ => some k_ ≠ (v2_ : Value).ownBlock) v5_ r6 ∧ Below w.heap.size w w' := by
 have hu35 := Try.underlying35
 have hu37 := Try.underlying37
 have HR0 := Aside0.mk hr0
 have HC0 := Aside0.mk hc0
 clear hr0 hc0
 have HB := Aside0.mk (Below.refl w.heap.size w)
 have H : ((spec_l30Open.f l0).bind fun bt103 => ((spec_l30Rank.f k bt103.1 bt103.2).bind fun bt106 => ((spec_l30Costs.f k bt103.1 bt106.2.2.2.2.2 bt106.1 bt106.2.1).bind fun bt122 => (some (bt106.1, bt106.2.1, bt106.2.2.1, bt106.2.2.2.1, bt106.2.2.2.2.1, bt122.1))))) = some (r1, r2, r3, r4, r5, r6) := h
 clear h
 replace H := Option.bind_eq_some_iff.mp H
 obtain ⟨⟨jF, jP⟩, A20, H⟩ := H
 replace H : ((spec_l30Rank.f k jF jP).bind fun bt106 => ((spec_l30Costs.f k jF bt106.2.2.2.2.2 bt106.1 bt106.2.1).bind fun bt122 => (some (bt106.1, bt106.2.1, bt106.2.2.1, bt106.2.2.2.1, bt106.2.2.2.2.1, bt122.1)))) = some (r1, r2, r3, r4, r5, r6) := H
 have A2 := Aside0.mk A20
 clear A20
 replace H := Option.bind_eq_some_iff.mp H
 obtain ⟨⟨jk, je, jb, jf, jl, jG⟩, A30, H⟩ := H
 replace H : ((spec_l30Costs.f k jF jG jk je).bind fun bt122 => (some (jk, je, jb, jf, jl, bt122.1))) = some (r1, r2, r3, r4, r5, r6) := H
 have A3 := Aside0.mk A30
 clear A30
 replace H := Option.bind_eq_some_iff.mp H
 obtain ⟨⟨jQ, j0w⟩, A40, H⟩ := H
 replace H : (some (jk, je, jb, jf, jl, jQ)) = some (r1, r2, r3, r4, r5, r6) := H
 have A4 := Aside0.mk A40
 clear A40
 simp only [Option.some.injEq, Prod.mk.injEq] at H
 obtain ⟨rfl, rfl, rfl, rfl, rfl, rfl⟩ := H
 go_enter Try.func47, Try.ntmps47
 try go_wp2_with (first | ((with_reducible refine gate_dst (N := 2) rfl ?_); refine be (cs := #[.int .i64 0, .slice none 0 0]) (t := 35) ?_; intro j8 hg w5 hbox hb; have j2 := Aside0.mk (hbox); have j0B := gz w hg (uB0 HB); have jm := gz w hg (uB0 HB); replace HB := Aside0.mk (below_step (uB0 HB) hb); clear hb hbox hg) | ((with_reducible refine gate_dst (N := 3) rfl ?_); refine be (cs := #[.slice none 0 0, .slice none 0 0, .slice none 0 0]) (t := 37) ?_; intro j1 hg w6 hbox hb; have j4 := Aside0.mk (hbox); have j0C := gz w hg (uB1 HB jm.out); have jw := gz w hg (uB1 HB jm.out); replace HB := Aside0.mk (below_step (uB1 HB jm.out) hb); have jz := gl hg j2; have jA := gr hg j2; replace j2 := bb j2 hb; clear hb hbox hg) | ((with_reducible refine gate_callee (f := 75) rfl ?_); refine goesL_ (some 9) rfl rfl Try.func75 (by kernel_rfl) rfl #[.slice A0 l0.length c0] rfl ul ?_; (with_reducible refine (spec_l30Open.calls _ _ l0 jF jP w _ ?side1 ?side2 ?side3 A2.out).mono ?_); (case side1 => exact uB2 HB jm.out jw.out); (case side2 => exact HR0.out); (case side3 => exact HC0.out); rintro e w7 ⟨g105, rfl, hi, hb, hb2⟩; refine ⟨_, rfl, ?_⟩; replace HB := Aside0.mk (hb); have HI105 := Aside0.mk (hi); have j5 := Aside0.mk (IsS116.ne_blk hi (blk_below (g := j8) (o := .cells #[.int .i64 0, .slice none 0 0] 35 (0, 0)) (ub j2) hb2) (by decide)); have jI := Aside0.mk (Ne.symm (IsS116.ne_blk hi (blk_below (g := j8) (o := .cells #[.int .i64 0, .slice none 0 0] 35 (0, 0)) (ub j2) hb2) (by decide))); replace j2 := Aside0.mk (blk_below (g := j8) (o := .cells #[.int .i64 0, .slice none 0 0] 35 (0, 0)) (ub j2) hb2); have j6 := Aside0.mk (IsS116.ne_blk hi (blk_below (g := j1) (o := .cells #[.slice none 0 0, .slice none 0 0, .slice none 0 0] 37 (0, 0)) (ub j4) hb2) (by decide)); have jJ := Aside0.mk (Ne.symm (IsS116.ne_blk hi (blk_below (g := j1) (o := .cells #[.slice none 0 0, .slice none 0 0, .slice none 0 0] 37 (0, 0)) (ub j4) hb2) (by decide))); replace j4 := Aside0.mk (blk_below (g := j1) (o := .cells #[.slice none 0 0, .slice none 0 0, .slice none 0 0] 37 (0, 0)) (ub j4) hb2); (try clear hb); (try clear hb2); (try clear hi)) | ((with_reducible refine gate_callee (f := 74) rfl ?_); refine goesL_ (some 12) rfl rfl Try.func74 (by kernel_rfl) rfl #[.pointer (some ⟨g105, 0, none⟩)] rfl ul ?_; (with_reducible refine (spec_l30Rank.calls k g105 jF jP jk je jb jf jl jG w _ ?side1 ?side2 A3.out).mono ?_); (case side1 => exact uI2 HI105 j5.out j6.out); (case side2 => exact uB3 HB (IsS116.ge HI105.out) jm.out jw.out); rintro e w8 ⟨v108, v111, v114, v117, rfl, ho0, ho1, ho2, ho3, hi, hb, hk⟩; refine ⟨_, rfl, ?_⟩; replace j2 := Aside0.mk (KeepBut.blk hk (g' := j8) (o := .cells #[.int .i64 0, .slice none 0 0] 35 (0, 0)) (ub j2) jI.out (by simp)); replace j4 := Aside0.mk (KeepBut.blk hk (g' := j1) (o := .cells #[.slice none 0 0, .slice none 0 0, .slice none 0 0] 37 (0, 0)) (ub j4) jJ.out (by simp)); have jp := Aside0.mk (Kd.R_lower ho0 (below_size (uB3 HB (IsS116.ge HI105.out) jm.out jw.out))); have jr := Aside0.mk (Kd.R_lower ho1 (below_size (uB3 HB (IsS116.ge HI105.out) jm.out jw.out))); have jx := Aside0.mk (Kd.S_lower ho2 (below_size (uB3 HB (IsS116.ge HI105.out) jm.out jw.out))); have jy := Aside0.mk (Kd.S_lower ho3 (below_size (uB3 HB (IsS116.ge HI105.out) jm.out jw.out))); replace HB := Aside0.mk (hb); replace HI105 := Aside0.mk (hi); (try clear hb); (try clear hk); (try clear hi); (try clear ho0); (try clear ho1); (try clear ho2); (try clear ho3)) | ((with_reducible refine gate_dst (N := 6) rfl ?_); refine be (cs := #[.int .i64 0, .slice none 0 0]) (t := 35) ?_; intro j3 hg w9 hbox hb; replace jp := Aside0.mk (Kd.R_below (ur jp) hb); replace jr := Aside0.mk (Kd.R_below (ur jr) hb); replace jx := Aside0.mk (Kd.S_below (by (with_reducible repeat (first | apply Kd.S_alloc | apply Kd.S_drewN | apply Kd.S_drew)); exact jx.out) hb); replace jy := Aside0.mk (Kd.S_below (by (with_reducible repeat (first | apply Kd.S_alloc | apply Kd.S_drewN | apply Kd.S_drew)); exact jy.out) hb); have jc := Aside0.mk (hbox); have j0D := Aside0.mk ((by rw [hg]; exact (below_size (uB3 HB (IsS116.ge HI105.out) jm.out jw.out)) : w.heap.size ≤ j3)); have jH := Aside0.mk ((by rw [hg]; exact (below_size (uB3 HB (IsS116.ge HI105.out) jm.out jw.out)) : w.heap.size ≤ j3)); replace HB := Aside0.mk (below_step (uB3 HB (IsS116.ge HI105.out) jm.out jw.out) hb); have jD := gl hg j2; have jq := gr hg j2; replace j2 := bb j2 hb; have jB := gl hg j4; have ja := gr hg j4; replace j4 := bb j4 hb; have j9 := Aside0.mk ((by rw [hg]; exact Nat.ne_of_lt (IsS116.lt (show IsS116 w _ g105 jF jG from uI2 HI105 j5.out j6.out)) : g105 ≠ j3)); have jK := Aside0.mk ((by rw [hg]; exact Nat.ne_of_gt (IsS116.lt (show IsS116 w _ g105 jF jG from uI2 HI105 j5.out j6.out)) : j3 ≠ g105)); replace HI105 := Aside0.mk (IsS116.below (uI2 HI105 j5.out j6.out) hb); clear hb hbox hg) | ((with_reducible refine gate_dst (N := 7) rfl ?_); refine be (cs := #[.slice none 0 0, .slice none 0 0, .slice none 0 0]) (t := 37) ?_; intro j0 hg w10 hbox hb; replace jp := Aside0.mk (Kd.R_below (ur jp) hb); replace jr := Aside0.mk (Kd.R_below (ur jr) hb); replace jx := Aside0.mk (Kd.S_below (by (with_reducible repeat (first | apply Kd.S_alloc | apply Kd.S_drewN | apply Kd.S_drew)); exact jx.out) hb); replace jy := Aside0.mk (Kd.S_below (by (with_reducible repeat (first | apply Kd.S_alloc | apply Kd.S_drewN | apply Kd.S_drew)); exact jy.out) hb); have jg := Aside0.mk (hbox); have j0E := Aside0.mk ((by rw [hg]; exact (below_size (uB4 HB (IsS116.ge HI105.out) jm.out jw.out jH.out)) : w.heap.size ≤ j0)); have jO := Aside0.mk ((by rw [hg]; exact (below_size (uB4 HB (IsS116.ge HI105.out) jm.out jw.out jH.out)) : w.heap.size ≤ j0)); replace HB := Aside0.mk (below_step (uB4 HB (IsS116.ge HI105.out) jm.out jw.out jH.out) hb); have jE := gl hg j2; have jd := gr hg j2; replace j2 := bb j2 hb; have jC := gl hg j4; have j7 := gr hg j4; replace j4 := bb j4 hb; have jL := gl hg jc; have jM := gr hg jc; replace jc := bb jc hb; have jj := Aside0.mk ((by rw [hg]; exact Nat.ne_of_lt (IsS116.lt (show IsS116 w _ g105 jF jG from uI3 HI105 j5.out j6.out j9.out)) : g105 ≠ j0)); have jN := Aside0.mk ((by rw [hg]; exact Nat.ne_of_gt (IsS116.lt (show IsS116 w _ g105 jF jG from uI3 HI105 j5.out j6.out j9.out)) : j0 ≠ g105)); replace HI105 := Aside0.mk (IsS116.below (uI3 HI105 j5.out j6.out j9.out) hb); clear hb hbox hg; have j0F := jq.out; have j0G := jD.out; have j0H := ja.out; have j0I := jB.out; have j0J := jL.out; have j0K := jM.out; have j0L := jK.out; have j0M := j9.out; obtain ⟨jS, jT, jU, jV⟩ := bc2 jc; obtain ⟨js, jt, j0x⟩ := Kd.R_slice jp.out; subst j0x; obtain ⟨jh, ji, j0y⟩ := Kd.R_slice jr.out; subst j0y; have j0N := jd.out; have j0O := jE.out; have j0P := j7.out; have j0Q := jC.out; have j0R := jN.out; have j0S := jj.out; obtain ⟨jW, jX, jY, jZ, j00, j01⟩ := bc3 jg; obtain ⟨jn, jo, j0z⟩ := Kd.S_slice jx.out; subst j0z; obtain ⟨ju, jv, j0A⟩ := Kd.S_slice jy.out; subst j0A))
 have n0_ : Aside0 (Kd.R k61 61 (((((w10.setCell ⟨j3, 0, none⟩ (.int .i64 jk)).setCell ⟨j3, 1, none⟩ (.slice js je.length jt)).setCell ⟨j0, 0, none⟩ (.slice jh jb.length ji)).setCell ⟨j0, 1, none⟩ (.slice jn jf.length jo)).setCell ⟨j0, 2, none⟩ (.slice ju jl.length jv)) w.heap.size (fun _ => True) (.slice js je.length jt) je) := ⟨by (with_reducible repeat (first | apply Kd.R_alloc | apply Kd.R_drewN | apply Kd.R_drew)); exact Kd.R_mono (Kd.R_far (p := ⟨j0, 2, none⟩) (Kd.R_far (p := ⟨j0, 1, none⟩) (Kd.R_far (p := ⟨j0, 0, none⟩) (Kd.R_far (p := ⟨j3, 1, none⟩) (Kd.R_far (p := ⟨j3, 0, none⟩) (Kd.R_types (Kd.R_types jp.out jc.out (by decide)) jg.out (by decide)) (fun _ hk => hk.1.2) (.int .i64 jk)) (fun _ hk => hk.1.2) (.slice js je.length jt)) (fun _ hk => hk.2) (.slice jh jb.length ji)) (fun _ hk => hk.2) (.slice jn jf.length jo)) (fun _ hk => hk.2) (.slice ju jl.length jv)) (fun _ hk => trivial)⟩
 have n1_ : Aside0 (Kd.R (Kd.int .i64) 3 (((((w10.setCell ⟨j3, 0, none⟩ (.int .i64 jk)).setCell ⟨j3, 1, none⟩ (.slice js je.length jt)).setCell ⟨j0, 0, none⟩ (.slice jh jb.length ji)).setCell ⟨j0, 1, none⟩ (.slice jn jf.length jo)).setCell ⟨j0, 2, none⟩ (.slice ju jl.length jv)) w.heap.size (fun _ => True) (.slice jh jb.length ji) jb) := ⟨by (with_reducible repeat (first | apply Kd.R_alloc | apply Kd.R_drewN | apply Kd.R_drew)); exact Kd.R_mono (Kd.R_far (p := ⟨j0, 2, none⟩) (Kd.R_far (p := ⟨j0, 1, none⟩) (Kd.R_far (p := ⟨j0, 0, none⟩) (Kd.R_far (p := ⟨j3, 1, none⟩) (Kd.R_far (p := ⟨j3, 0, none⟩) (Kd.R_types (Kd.R_types jr.out jc.out (by decide)) jg.out (by decide)) (fun _ hk => hk.1.2) (.int .i64 jk)) (fun _ hk => hk.1.2) (.slice js je.length jt)) (fun _ hk => hk.2) (.slice jh jb.length ji)) (fun _ hk => hk.2) (.slice jn jf.length jo)) (fun _ hk => hk.2) (.slice ju jl.length jv)) (fun _ hk => trivial)⟩
 have n2_ : Aside0 (Kd.S (Kd.slice 3 (Kd.int .i64)) 25 (((((w10.setCell ⟨j3, 0, none⟩ (.int .i64 jk)).setCell ⟨j3, 1, none⟩ (.slice js je.length jt)).setCell ⟨j0, 0, none⟩ (.slice jh jb.length ji)).setCell ⟨j0, 1, none⟩ (.slice jn jf.length jo)).setCell ⟨j0, 2, none⟩ (.slice ju jl.length jv)) w.heap.size (fun k_ => some k_ ≠ (.slice jh jb.length ji : Value).ownBlock ∧ some k_ ≠ (.slice ju jl.length jv : Value).ownBlock) (.slice jn jf.length jo) jf) := ⟨by (with_reducible repeat (first | apply Kd.S_alloc | apply Kd.S_drewN | apply Kd.S_drew)); exact Kd.S_mono (Kd.S_far (p := ⟨j0, 2, none⟩) (Kd.S_far (p := ⟨j0, 1, none⟩) (Kd.S_far (p := ⟨j0, 0, none⟩) (Kd.S_far (p := ⟨j3, 1, none⟩) (Kd.S_far (p := ⟨j3, 0, none⟩) (Kd.S_types (Kd.S_types jx.out jc.out (by decide)) jg.out (by decide)) (fun _ hk => hk.1.2) (.int .i64 jk)) (fun _ hk => hk.1.2) (.slice js je.length jt)) (fun _ hk => hk.2) (.slice jh jb.length ji)) (fun _ hk => hk.2) (.slice jn jf.length jo)) (fun _ hk => hk.2) (.slice ju jl.length jv)) (fun _ hk => ⟨hk.1.1.1, hk.1.1.2⟩)⟩
 have n3_ : Aside0 (Kd.S (Kd.slice 3 (Kd.int .i64)) 25 (((((w10.setCell ⟨j3, 0, none⟩ (.int .i64 jk)).setCell ⟨j3, 1, none⟩ (.slice js je.length jt)).setCell ⟨j0, 0, none⟩ (.slice jh jb.length ji)).setCell ⟨j0, 1, none⟩ (.slice jn jf.length jo)).setCell ⟨j0, 2, none⟩ (.slice ju jl.length jv)) w.heap.size (fun k_ => some k_ ≠ (.slice jh jb.length ji : Value).ownBlock ∧ some k_ ≠ (.slice jn jf.length jo : Value).ownBlock) (.slice ju jl.length jv) jl) := ⟨by (with_reducible repeat (first | apply Kd.S_alloc | apply Kd.S_drewN | apply Kd.S_drew)); exact Kd.S_mono (Kd.S_far (p := ⟨j0, 2, none⟩) (Kd.S_far (p := ⟨j0, 1, none⟩) (Kd.S_far (p := ⟨j0, 0, none⟩) (Kd.S_far (p := ⟨j3, 1, none⟩) (Kd.S_far (p := ⟨j3, 0, none⟩) (Kd.S_types (Kd.S_types jy.out jc.out (by decide)) jg.out (by decide)) (fun _ hk => hk.1.2) (.int .i64 jk)) (fun _ hk => hk.1.2) (.slice js je.length jt)) (fun _ hk => hk.2) (.slice jh jb.length ji)) (fun _ hk => hk.2) (.slice jn jf.length jo)) (fun _ hk => hk.2) (.slice ju jl.length jv)) (fun _ hk => ⟨hk.1.1.1, hk.1.1.2⟩)⟩
 have n4_ : Aside0 ((((((w10.setCell ⟨j3, 0, none⟩ (.int .i64 jk)).setCell ⟨j3, 1, none⟩ (.slice js je.length jt)).setCell ⟨j0, 0, none⟩ (.slice jh jb.length ji)).setCell ⟨j0, 1, none⟩ (.slice jn jf.length jo)).setCell ⟨j0, 2, none⟩ (.slice ju jl.length jv)).heap[j8]? = some (.cells #[.int .i64 0, .slice none 0 0] 35 (0, 0))) := ⟨by (with_reducible repeat first | apply zbn | apply zbd | apply zba); refine fa3 ?_ jE; (with_reducible repeat first | apply zbn | apply zbd | apply zba); refine fa2 ?_ jD; exact ub j2⟩
 have n5_ : Aside0 ((((((w10.setCell ⟨j3, 0, none⟩ (.int .i64 jk)).setCell ⟨j3, 1, none⟩ (.slice js je.length jt)).setCell ⟨j0, 0, none⟩ (.slice jh jb.length ji)).setCell ⟨j0, 1, none⟩ (.slice jn jf.length jo)).setCell ⟨j0, 2, none⟩ (.slice ju jl.length jv)).heap[j1]? = some (.cells #[.slice none 0 0, .slice none 0 0, .slice none 0 0] 37 (0, 0))) := ⟨by (with_reducible repeat first | apply zbn | apply zbd | apply zba); refine fa3 ?_ jC; (with_reducible repeat first | apply zbn | apply zbd | apply zba); refine fa2 ?_ jB; exact ub j4⟩
 have n6_ : Aside0 ((((((w10.setCell ⟨j3, 0, none⟩ (.int .i64 jk)).setCell ⟨j3, 1, none⟩ (.slice js je.length jt)).setCell ⟨j0, 0, none⟩ (.slice jh jb.length ji)).setCell ⟨j0, 1, none⟩ (.slice jn jf.length jo)).setCell ⟨j0, 2, none⟩ (.slice ju jl.length jv)).heap[j3]? = some (.cells #[.int .i64 jk, .slice js je.length jt] 35 (0, 0))) := ⟨by (with_reducible repeat first | apply zbn | apply zbd | apply zba); refine fa3 ?_ jL; (with_reducible repeat first | apply zbn | apply zbd | apply zba); refine pu2 (.int .i64 0) (.slice none 0 0) ?_; exact ub jc⟩
 have n7_ : Aside0 ((((((w10.setCell ⟨j3, 0, none⟩ (.int .i64 jk)).setCell ⟨j3, 1, none⟩ (.slice js je.length jt)).setCell ⟨j0, 0, none⟩ (.slice jh jb.length ji)).setCell ⟨j0, 1, none⟩ (.slice jn jf.length jo)).setCell ⟨j0, 2, none⟩ (.slice ju jl.length jv)).heap[j0]? = some (.cells #[.slice jh jb.length ji, .slice jn jf.length jo, .slice ju jl.length jv] 37 (0, 0))) := ⟨by (with_reducible repeat first | apply zbn | apply zbd | apply zba); refine blk_put (cs := #[.slice jh jb.length ji, .slice jn jf.length jo, .slice none 0 0]) ?_ 2 _ rfl; (with_reducible repeat first | apply zbn | apply zbd | apply zba); refine blk_put (cs := #[.slice jh jb.length ji, .slice none 0 0, .slice none 0 0]) ?_ 1 _ rfl; (with_reducible repeat first | apply zbn | apply zbd | apply zba); refine blk_put (cs := #[.slice none 0 0, .slice none 0 0, .slice none 0 0]) ?_ 0 _ rfl; (with_reducible repeat first | apply zbn | apply zbd | apply zba); refine fa2 ?_ jM; exact ub jg⟩
 have n8_ : Aside0 (IsS116 w (((((w10.setCell ⟨j3, 0, none⟩ (.int .i64 jk)).setCell ⟨j3, 1, none⟩ (.slice js je.length jt)).setCell ⟨j0, 0, none⟩ (.slice jh jb.length ji)).setCell ⟨j0, 1, none⟩ (.slice jn jf.length jo)).setCell ⟨j0, 2, none⟩ (.slice ju jl.length jv)) g105 jF jG) := ⟨uI4 HI105 j5.out j6.out j9.out jj.out⟩
 have n9_ : Aside0 (Below w.heap.size w (((((w10.setCell ⟨j3, 0, none⟩ (.int .i64 jk)).setCell ⟨j3, 1, none⟩ (.slice js je.length jt)).setCell ⟨j0, 0, none⟩ (.slice jh jb.length ji)).setCell ⟨j0, 1, none⟩ (.slice jn jf.length jo)).setCell ⟨j0, 2, none⟩ (.slice ju jl.length jv))) := ⟨uB5 HB (IsS116.ge HI105.out) jm.out jw.out jH.out jO.out⟩
 (try clear jp)
 (try clear jr)
 (try clear jx)
 (try clear jy)
 (try clear j2)
 (try clear j4)
 (try clear jc)
 (try clear jg)
 (try clear HI105)
 (try clear HB)
 generalize (((((w10.setCell ⟨j3, 0, none⟩ (.int .i64 jk)).setCell ⟨j3, 1, none⟩ (.slice js je.length jt)).setCell ⟨j0, 0, none⟩ (.slice jh jb.length ji)).setCell ⟨j0, 1, none⟩ (.slice jn jf.length jo)).setCell ⟨j0, 2, none⟩ (.slice ju jl.length jv)) = w24 at n0_ n1_ n2_ n3_ n4_ n5_ n6_ n7_ n8_ n9_ ⊢
 have jp := n0_
 have jr := n1_
 have jx := n2_
 have jy := n3_
 have j2 := n4_
 have j4 := n5_
 have jc := n6_
 have jg := n7_
 have HI105 := n8_
 have HB := n9_
 clear n0_ n1_ n2_ n3_ n4_ n5_ n6_ n7_ n8_ n9_
 have n0_ := Aside0.mk (Kd.R_drew jp.out)
 have n1_ := Aside0.mk (Kd.R_drew jr.out)
 have n2_ := Aside0.mk (Kd.S_drew jx.out)
 have n3_ := Aside0.mk (Kd.S_drew jy.out)
 have n4_ := Aside0.mk (blk_drew j2.out)
 have n5_ := Aside0.mk (blk_drew j4.out)
 have n6_ := Aside0.mk (blk_drew jc.out)
 have n7_ := Aside0.mk (blk_drew jg.out)
 have n8_ := Aside0.mk (IsS116.drew HI105.out)
 have n9_ := Aside0.mk (below_drew1 HB.out)
 clear jp
 clear jr
 clear jx
 clear jy
 clear j2
 clear j4
 clear jc
 clear jg
 clear HI105
 clear HB
 have jp := n0_
 have jr := n1_
 have jx := n2_
 have jy := n3_
 have j2 := n4_
 have j4 := n5_
 have jc := n6_
 have jg := n7_
 have HI105 := n8_
 have HB := n9_
 clear n0_ n1_ n2_ n3_ n4_ n5_ n6_ n7_ n8_ n9_
 refine start_ (n := 8) (S := fun w' => w'.cell? ⟨j3, 0, none⟩ = some (.int .i64 jk) ∧ w'.cell? ⟨j3, 1, none⟩ = some (.slice js je.length jt) ∧ w'.cell? ⟨j0, 0, none⟩ = some (.slice jh jb.length ji) ∧ w'.cell? ⟨j0, 1, none⟩ = some (.slice jn jf.length jo) ∧ w'.cell? ⟨j0, 2, none⟩ = some (.slice ju jl.length jv)) (ds := []) (zt 8 0) (by kernel_rfl) rfl (by kernel_rfl) ⟨(blk_cell jc.out 0).trans rfl, (blk_cell jc.out 1).trans rfl, (blk_cell jg.out 0).trans rfl, (blk_cell jg.out 1).trans rfl, (blk_cell jg.out 2).trans rfl⟩ (fun hHeld => ?_); refine with_tabW spec_DrawCostRank.tab3 spec_DrawCostRank.bits3 (fun HT_ HW_ => ?_)
 generalize w24.drew = w25 at jp jr jx jy j2 j4 jc jg HI105 HB hHeld ⊢
 refine pure_ (i := 2) (N := some 17) (v := ?_) (a' := ?_) (zt 8 4) rfl rfl (any_of HT_.out (by kernel_rfl)) (fun _ _ _ h => h) (Or.inl ⟨by rfl, ?_⟩) ?_ ?_
 rotate_left
 (intro w'; go_simp; with_reducible rfl)
 rotate_left
 (simp only [Act.put, List.setIfInBounds_toArray, List.set_cons_zero, List.set_cons_succ, i64_w, i32_w]; rfl)
 refine take_ (i := 0) (N := some 15) (v := ?_) (a' := ?_) (zt 8 5) rfl rfl (take_ofW HT_.out HW_.out (by kernel_rfl)) (fun _ _ _ h => h) (Or.inl ⟨by rfl, ?_⟩) hHeld ?_ ?_
 rotate_left
 (rintro w' ⟨s0, s1, s2, s3, s4⟩; go_simp; with_reducible rfl)
 rotate_left
 (simp only [Act.put, List.setIfInBounds_toArray, List.set_cons_zero, List.set_cons_succ, i64_w, i32_w]; rfl)
 refine take_ (i := 1) (N := some 16) (v := ?_) (a' := ?_) (zt 8 7) rfl rfl (take_ofW HT_.out HW_.out (by kernel_rfl)) (fun _ _ _ h => h) (Or.inl ⟨by rfl, ?_⟩) hHeld ?_ ?_
 rotate_left
 (rintro w' ⟨s0, s1, s2, s3, s4⟩; go_simp; with_reducible rfl)
 rotate_left
 (simp only [Act.put, List.setIfInBounds_toArray, List.set_cons_zero, List.set_cons_succ, i64_w, i32_w]; rfl)
 refine take_ (i := 3) (N := some 18) (v := ?_) (a' := ?_) (zt 8 15) rfl rfl (take_ofW HT_.out HW_.out (by kernel_rfl)) (fun _ _ _ h => h) (Or.inl ⟨by rfl, ?_⟩) hHeld ?_ ?_
 rotate_left
 (rintro w' ⟨s0, s1, s2, s3, s4⟩; go_simp; with_reducible rfl)
 rotate_left
 (simp only [Act.put, List.setIfInBounds_toArray, List.set_cons_zero, List.set_cons_succ, i64_w, i32_w]; rfl)
 refine qo HT_ 4 (fun K hK => ?_)
 refine goes_ Try.func91 (by kernel_rfl) rfl #[.pointer (some ⟨g105, 0, none⟩), .agg #[.int .i64 jk, .slice js je.length jt]] (by rfl) rfl rfl ul ?_
 with_reducible refine (spec_l30Costs.calls k g105 jF jG jk _ _ je jQ j0w w _ ?side1 ?side2 ?side3 ?side4 A4.out).mono ?_
 (case side1 => exact uI4 HI105 j5.out j6.out j9.out jj.out)
 (case side2 => exact uB5 HB (IsS116.ge HI105.out) jm.out jw.out jH.out jO.out)
 (case side3 => exact Kd.C_foot_own (IsS116.apart (show IsS116 w _ g105 jF jG from uI4 HI105 j5.out j6.out j9.out jj.out) (ur jp) (by decide)) (fun _ h_ => h_.2))
 (case side4 => exact (Kd.R_reads' jp.out).2.1)
 rintro e w26 ⟨v123, rfl, ho0, hi, hb, hk⟩
 refine ⟨_, rfl, ?_⟩
 have n0_ := Aside0.mk (KeepBut.blk hk (g' := j8) (o := .cells #[.int .i64 0, .slice none 0 0] 35 (0, 0)) (ub j2) jI.out (by simp))
 have n1_ := Aside0.mk (KeepBut.blk hk (g' := j1) (o := .cells #[.slice none 0 0, .slice none 0 0, .slice none 0 0] 37 (0, 0)) (ub j4) jJ.out (by simp))
 have n2_ := Aside0.mk (Kd.R_mono (Kd.R_keep (IsS116.apart (show IsS116 w _ g105 jF jG from uI4 HI105 j5.out j6.out j9.out jj.out) (ur jp) (by decide)) hk (fun _ h => h.2)) (fun _ h => h.1))
 have n3_ := Aside0.mk (Kd.R_mono (Kd.R_told (Kd.R_oldK (IsS116.apart (show IsS116 w _ g105 jF jG from uI4 HI105 j5.out j6.out j9.out jj.out) (ur jr) (by decide)) hk) (Kd.R_base ho0)) (fun _ h_ => h_.1))
 have n4_ := Aside0.mk (Kd.S_mono (Kd.S_told (Kd.S_oldK (IsS116.apartS (show IsS116 w _ g105 jF jG from uI4 HI105 j5.out j6.out j9.out jj.out) (by (with_reducible repeat (first | apply Kd.S_alloc | apply Kd.S_drewN | apply Kd.S_drew)); exact jx.out) (by decide)) hk) (Kd.R_base ho0)) (fun _ h_ => h_.1))
 have n5_ := Aside0.mk (Kd.S_mono (Kd.S_told (Kd.S_oldK (IsS116.apartS (show IsS116 w _ g105 jF jG from uI4 HI105 j5.out j6.out j9.out jj.out) (by (with_reducible repeat (first | apply Kd.S_alloc | apply Kd.S_drewN | apply Kd.S_drew)); exact jy.out) (by decide)) hk) (Kd.R_base ho0)) (fun _ h_ => h_.1))
 have n6_ := Aside0.mk (KeepBut.blk hk (g' := j3) (o := .cells #[.int .i64 jk, .slice js je.length jt] 35 (0, 0)) (ub jc) jK.out (by simp))
 have n7_ := Aside0.mk (KeepBut.blk hk (g' := j0) (o := .cells #[.slice jh jb.length ji, .slice jn jf.length jo, .slice ju jl.length jv] 37 (0, 0)) (ub jg) jN.out (by simp))
 have n8_ := Aside0.mk (Kd.R_lower (Kd.R_new' ho0 (Kd.R_lt (ur jr))) (below_size (uB5 HB (IsS116.ge HI105.out) jm.out jw.out jH.out jO.out)))
 have n9_ := Aside0.mk (hb)
 have n10_ := Aside0.mk (hi)
 clear j2
 clear j4
 clear jp
 clear jr
 clear jx
 clear jy
 clear jc
 clear jg
 clear HB
 clear HI105
 have j2 := n0_
 have j4 := n1_
 have jp := n2_
 have jr := n3_
 have jx := n4_
 have jy := n5_
 have jc := n6_
 have jg := n7_
 have jR := n8_
 have HB := n9_
 have HI105 := n10_
 clear n0_ n1_ n2_ n3_ n4_ n5_ n6_ n7_ n8_ n9_ n10_
 (try clear hb)
 (try clear hk)
 (try clear hi)
 (try clear ho0)
 refine hK.out _ _ ⟨(blk_cell jc.out 0).trans rfl, (blk_cell jc.out 1).trans rfl, (blk_cell jg.out 0).trans rfl, (blk_cell jg.out 1).trans rfl, (blk_cell jg.out 2).trans rfl⟩ (fun hHeld => ?_)
 clear hK K
 refine norm_ (a' := ?_) ?_ ?_
 rotate_left
 ·
  show Act.put _ (some 19) _ = _
  simp only [Act.put, List.setIfInBounds_toArray, List.set_cons_zero, List.set_cons_succ, i64_w, i32_w]; rfl
 refine qo HT_ 5 (fun K hK => ?_)
 have j0Y : w26.cell? ⟨j8, 0, none⟩ = some (.int .i64 0) := (blk_cell j2.out 0).trans rfl
 have j0T := blk_frozen j2.out 0
 have j02 := jA.out
 have j03 := jq.out
 have j04 := jd.out
 have j05 := jz.out
 have j06 := jD.out
 have j07 := jE.out
 have j0Z : w26.cell? ⟨j8, 1, none⟩ = some (.slice none 0 0) := (blk_cell j2.out 1).trans rfl
 have j0U := blk_frozen j2.out 1
 have j08 := jA.out
 have j09 := jq.out
 have j0a := jd.out
 have j0b := jz.out
 have j0c := jD.out
 have j0d := jE.out
 refine skip_ (w1 := ?_) (by rfl) rfl ?_ ?_
 rotate_left
 ·
  go_simp; rfl
 refine hK.out _ _ ⟨((cell_far (p := ⟨j8, _, none⟩) jq.out _).trans (((cell_far (p := ⟨j8, _, none⟩) jq.out _).trans (hHeld.1)))), ((cell_far (p := ⟨j8, _, none⟩) jq.out _).trans (((cell_far (p := ⟨j8, _, none⟩) jq.out _).trans (hHeld.2.1)))), ((cell_far (p := ⟨j8, _, none⟩) jd.out _).trans (((cell_far (p := ⟨j8, _, none⟩) jd.out _).trans (hHeld.2.2.1)))), ((cell_far (p := ⟨j8, _, none⟩) jd.out _).trans (((cell_far (p := ⟨j8, _, none⟩) jd.out _).trans (hHeld.2.2.2.1)))), ((cell_far (p := ⟨j8, _, none⟩) jd.out _).trans (((cell_far (p := ⟨j8, _, none⟩) jd.out _).trans (hHeld.2.2.2.2))))⟩ (fun hHeld => ?_)
 clear hK K
 refine qo HT_ 6 (fun K hK => ?_)
 have j10 : w26.cell? ⟨j1, 0, none⟩ = some (.slice none 0 0) := (blk_cell j4.out 0).trans rfl
 have j0V := blk_frozen j4.out 0
 have j0e := jz.out
 have j0f := ja.out
 have j0g := j7.out
 have j0h := jA.out
 have j0i := jB.out
 have j0j := jC.out
 have j11 : w26.cell? ⟨j1, 1, none⟩ = some (.slice none 0 0) := (blk_cell j4.out 1).trans rfl
 have j0W := blk_frozen j4.out 1
 have j0k := jz.out
 have j0l := ja.out
 have j0m := j7.out
 have j0n := jA.out
 have j0o := jB.out
 have j0p := jC.out
 have j12 : w26.cell? ⟨j1, 2, none⟩ = some (.slice none 0 0) := (blk_cell j4.out 2).trans rfl
 have j0X := blk_frozen j4.out 2
 have j0q := jz.out
 have j0r := ja.out
 have j0s := j7.out
 have j0t := jA.out
 have j0u := jB.out
 have j0v := jC.out
 refine skip_ (w1 := ?_) (by rfl) rfl ?_ ?_
 rotate_left
 ·
  go_simp; rfl
 refine hK.out _ _ ⟨((cell_far (p := ⟨j1, _, none⟩) ja.out _).trans (((cell_far (p := ⟨j1, _, none⟩) ja.out _).trans (((cell_far (p := ⟨j1, _, none⟩) ja.out _).trans (hHeld.1)))))), ((cell_far (p := ⟨j1, _, none⟩) ja.out _).trans (((cell_far (p := ⟨j1, _, none⟩) ja.out _).trans (((cell_far (p := ⟨j1, _, none⟩) ja.out _).trans (hHeld.2.1)))))), ((cell_far (p := ⟨j1, _, none⟩) j7.out _).trans (((cell_far (p := ⟨j1, _, none⟩) j7.out _).trans (((cell_far (p := ⟨j1, _, none⟩) j7.out _).trans (hHeld.2.2.1)))))), ((cell_far (p := ⟨j1, _, none⟩) j7.out _).trans (((cell_far (p := ⟨j1, _, none⟩) j7.out _).trans (((cell_far (p := ⟨j1, _, none⟩) j7.out _).trans (hHeld.2.2.2.1)))))), ((cell_far (p := ⟨j1, _, none⟩) j7.out _).trans (((cell_far (p := ⟨j1, _, none⟩) j7.out _).trans (((cell_far (p := ⟨j1, _, none⟩) j7.out _).trans (hHeld.2.2.2.2))))))⟩ (fun hHeld => ?_)
 clear hK K
 refine pure_ (i := 7) (N := some 4) (v := ?_) (a' := ?_) (zt 8 255) rfl rfl (any_of HT_.out (by kernel_rfl)) (fun _ _ _ h => h) (Or.inl ⟨by rfl, ?_⟩) ?_ ?_
 rotate_left
 (intro w'; go_simp; with_reducible rfl)
 rotate_left
 (simp only [Act.put, List.setIfInBounds_toArray, List.set_cons_zero, List.set_cons_succ, i64_w, i32_w]; rfl)
 refine done_ (done_of HT_.out (by kernel_rfl)) ?_
 try go_wp2
 refine bodyPost_ret (results_list (rs := [.cell 2 35, .cell 3 37, .tmp 4]) rfl (by simp) (.cell j8 35 #[.int .i64 jk, .slice js je.length jt] (0, 0) _ rfl (by (with_reducible repeat first | apply zbn | apply zbd | apply zba); refine fa3 ?_ jz; (with_reducible repeat first | apply zbn | apply zbd | apply zba); refine pu2 (.int .i64 0) (.slice none 0 0) ?_; exact ub j2) Try.underlying35 rfl (by kernel_rfl) (.cell j1 37 #[.slice jh jb.length ji, .slice jn jf.length jo, .slice ju jl.length jv] (0, 0) _ rfl (by (with_reducible repeat first | apply zbn | apply zbd | apply zba); refine blk_put (cs := #[.slice jh jb.length ji, .slice jn jf.length jo, .slice none 0 0]) ?_ 2 _ rfl; (with_reducible repeat first | apply zbn | apply zbd | apply zba); refine blk_put (cs := #[.slice jh jb.length ji, .slice none 0 0, .slice none 0 0]) ?_ 1 _ rfl; (with_reducible repeat first | apply zbn | apply zbd | apply zba); refine blk_put (cs := #[.slice none 0 0, .slice none 0 0, .slice none 0 0]) ?_ 0 _ rfl; (with_reducible repeat first | apply zbn | apply zbd | apply zba); refine fa2 ?_ jA; exact ub j4) Try.underlying37 rfl (by kernel_rfl) (.tmp .nil)))) rfl ?_
 exact ⟨_, _, _, _, _, by first | rfl | (simp [errW_none, errW_some] <;> rfl) | (simp [*, errW_none, errW_some] <;> rfl), by (with_reducible repeat (first | apply Kd.R_alloc | apply Kd.R_drewN | apply Kd.R_drew)); exact Kd.R_mono (Kd.R_far (p := ⟨j1, 2, none⟩) (Kd.R_far (p := ⟨j1, 1, none⟩) (Kd.R_far (p := ⟨j1, 0, none⟩) (Kd.R_far (p := ⟨j8, 1, none⟩) (Kd.R_far (p := ⟨j8, 0, none⟩) (Kd.R_types (Kd.R_types jp.out j2.out (by decide)) j4.out (by decide)) (fun _ hk => hk.1.2) (.int .i64 jk)) (fun _ hk => hk.1.2) (.slice js je.length jt)) (fun _ hk => hk.2) (.slice jh jb.length ji)) (fun _ hk => hk.2) (.slice jn jf.length jo)) (fun _ hk => hk.2) (.slice ju jl.length jv)) (fun _ hk => trivial), by (with_reducible repeat (first | apply Kd.R_alloc | apply Kd.R_drewN | apply Kd.R_drew)); exact Kd.R_mono (Kd.R_far (p := ⟨j1, 2, none⟩) (Kd.R_far (p := ⟨j1, 1, none⟩) (Kd.R_far (p := ⟨j1, 0, none⟩) (Kd.R_far (p := ⟨j8, 1, none⟩) (Kd.R_far (p := ⟨j8, 0, none⟩) (Kd.R_types (Kd.R_types jr.out j2.out (by decide)) j4.out (by decide)) (fun _ hk => hk.1.2) (.int .i64 jk)) (fun _ hk => hk.1.2) (.slice js je.length jt)) (fun _ hk => hk.2) (.slice jh jb.length ji)) (fun _ hk => hk.2) (.slice jn jf.length jo)) (fun _ hk => hk.2) (.slice ju jl.length jv)) (fun _ hk => hk.1.1.2), by (with_reducible repeat (first | apply Kd.S_alloc | apply Kd.S_drewN | apply Kd.S_drew)); exact Kd.S_mono (Kd.S_far (p := ⟨j1, 2, none⟩) (Kd.S_far (p := ⟨j1, 1, none⟩) (Kd.S_far (p := ⟨j1, 0, none⟩) (Kd.S_far (p := ⟨j8, 1, none⟩) (Kd.S_far (p := ⟨j8, 0, none⟩) (Kd.S_types (Kd.S_types jx.out j2.out (by decide)) j4.out (by decide)) (fun _ hk => hk.1.2) (.int .i64 jk)) (fun _ hk => hk.1.2) (.slice js je.length jt)) (fun _ hk => hk.2) (.slice jh jb.length ji)) (fun _ hk => hk.2) (.slice jn jf.length jo)) (fun _ hk => hk.2) (.slice ju jl.length jv)) (fun _ hk => ⟨hk.1.1.1.1, ⟨hk.1.1.1.2, hk.1.1.2⟩⟩), by (with_reducible repeat (first | apply Kd.S_alloc | apply Kd.S_drewN | apply Kd.S_drew)); exact Kd.S_mono (Kd.S_far (p := ⟨j1, 2, none⟩) (Kd.S_far (p := ⟨j1, 1, none⟩) (Kd.S_far (p := ⟨j1, 0, none⟩) (Kd.S_far (p := ⟨j8, 1, none⟩) (Kd.S_far (p := ⟨j8, 0, none⟩) (Kd.S_types (Kd.S_types jy.out j2.out (by decide)) j4.out (by decide)) (fun _ hk => hk.1.2) (.int .i64 jk)) (fun _ hk => hk.1.2) (.slice js je.length jt)) (fun _ hk => hk.2) (.slice jh jb.length ji)) (fun _ hk => hk.2) (.slice jn jf.length jo)) (fun _ hk => hk.2) (.slice ju jl.length jv)) (fun _ hk => ⟨hk.1.1.1.1, ⟨hk.1.1.1.2, hk.1.1.2⟩⟩), by (with_reducible repeat (first | apply Kd.R_alloc | apply Kd.R_drewN | apply Kd.R_drew)); exact Kd.R_mono (Kd.R_far (p := ⟨j1, 2, none⟩) (Kd.R_far (p := ⟨j1, 1, none⟩) (Kd.R_far (p := ⟨j1, 0, none⟩) (Kd.R_far (p := ⟨j8, 1, none⟩) (Kd.R_far (p := ⟨j8, 0, none⟩) (Kd.R_types (Kd.R_types jR.out j2.out (by decide)) j4.out (by decide)) (fun _ hk => hk.1.2) (.int .i64 jk)) (fun _ hk => hk.1.2) (.slice js je.length jt)) (fun _ hk => hk.2) (.slice jh jb.length ji)) (fun _ hk => hk.2) (.slice jn jf.length jo)) (fun _ hk => hk.2) (.slice ju jl.length jv)) (fun _ hk => hk.1.1.2), uB5 HB (IsS116.ge HI105.out) jm.out jw.out jH.out jO.out⟩

end Go.Proofs.Ytdlaaccnaokdnaa.P
