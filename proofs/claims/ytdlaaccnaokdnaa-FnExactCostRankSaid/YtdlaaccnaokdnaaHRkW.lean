/- Contracts that tell where a rank's parts lie: impl.RankOf, laws.toRank. -/
import Derived.Test.YtdlaaccnaokdnaaHXq
import Derived.Test.YtdlaaccnaokdnaaPFImplRankof
import Derived.Test.YtdlaaccnaokdnaaGRk
set_option linter.unusedVariables false
set_option linter.unusedSimpArgs false
namespace Go.Proofs.Ytdlaaccnaokdnaa.P
open Go.RowKit Go.Proofs.Ytdlaaccnaokdnaa.M Go.Proofs.YtdlaaccnaokdnaaV.PrintWords Go.Proofs.YtdlaaccnaokdnaaV.PrintLast Go.Proofs.YtdlaaccnaokdnaaV.PrintMore
set_option maxHeartbeats 4000000 in
set_option maxRecDepth 100000 in
theorem impl_RankOf.callsW (a0_0 : Int) (A0_1 : Option Addr) (c0_1 : Nat) (l0_1 : List S61) (A1 : Option Addr) (c1 : Nat) (l1 : List Int) (r1 : List Int) (r2 r3 : List (List Int)) (w : World) (hr0_1 : Kd.C k61 w A0_1 l0_1.length l0_1) (hc0_1 : l0_1.length ≤ c0_1) (hr1 : Kd.C (Kd.int .i64) w A1 l1.length l1) (hc1 : l1.length ≤ c1) (h : impl_RankOf.f a0_0 l0_1 l1 = some (r1, r2, r3)) :
    Calls Try.prog 37 #[.agg #[.int .i64 a0_0, .slice A0_1 l0_1.length c0_1], .slice A1 l1.length c1] w fun e w' => ∃ v0_ v1_ v2_ : Value, ∃ lo mid : Nat, e = .returned (.agg #[v0_, v1_, v2_]) ∧ Rk3 w' w.heap.size lo mid v0_ v1_ v2_ r1 r2 r3 ∧ Below w.heap.size w w' := by
  have hu35 := Try.underlying35
  have hu37 := Try.underlying37
  have HR0 := Aside0.mk hr0_1; have HC0 := Aside0.mk hc0_1
  have HR1 := Aside0.mk hr1; have HC1 := Aside0.mk hc1
  have HQ := Aside0.mk (XQ.start w)
  clear hr0_1 hc0_1 hr1 hc1
  unfold impl_RankOf.f at h
  obtain ⟨t, h1, h⟩ := Option.bind_eq_some_iff.1 h
  have F1 := Aside0.mk h1
  clear h1
  cases t with
  | false =>
    simp only [Bool.false_eq_true, if_false, Option.some.injEq, Prod.mk.injEq] at h
    obtain ⟨rfl, rfl, rfl⟩ := h
    go_enter Try.func37, Try.ntmps37
    go_wp2_with (first | ((with_reducible refine gate_dst (N := 2) rfl ?_); refine be (cs := #[.int .i64 a0_0, .slice A0_1 l0_1.length c0_1]) (t := 35) ?_; intro g2 hg w1 hbox hb; replace HQ := Aside0.mk (HQ.out.addB hg hbox hb); clear hb hbox hg) | ((with_reducible refine gate_dst (N := 4) rfl ?_); refine be (cs := #[.slice none 0 0, .slice none 0 0, .slice none 0 0]) (t := 37) ?_; intro g4 hg w2 hbox hb; replace HQ := Aside0.mk (HQ.out.addB hg hbox hb); clear hb hbox hg; obtain ⟨hz0, hz1, hf0, hf1⟩ := bc2 (HQ.out.bx (List.Mem.tail _ (List.Mem.head _)))) | ((with_reducible refine gate_callee (f := 79) rfl ?_); refine goesL_ (some 6) rfl rfl Try.func79 (by kernel_rfl) rfl #[.agg #[.int .i64 a0_0, .slice A0_1 l0_1.length c0_1]] rfl ul ?_; refine (impl_NetOk.calls a0_0 _ _ l0_1 false _ (Kd.C_below HR0.out HQ.out.hB) HC0.out F1.out).mono ?_; rintro e w3 ⟨rfl, hb⟩; refine ⟨_, rfl, ?_⟩; replace HQ := Aside0.mk (HQ.out.below hb); clear hb hz0 hz1 hf0 hf1; obtain ⟨hy0, hy1, hy2, he0, he1, he2⟩ := bc3 (HQ.out.bx (List.Mem.head _))))
    have BK4 := HQ.out.bx (List.Mem.head _)
    refine bodyPost_ret (results_cell_row rfl _ _ g4 37 #[.slice none 0 0, .slice none 0 0, .slice none 0 0] (0, 0) _ rfl (pu3 _ _ _ BK4.out) Try.underlying37 rfl (by kernel_rfl)) rfl ?_
    exact ⟨_, _, _, 0, 0, rfl, Rk3.nil _ _, (HQ.out.set3 _ _ _).hB⟩
  | true =>
    simp only [if_true] at h
    obtain ⟨t2, h2, h⟩ := Option.bind_eq_some_iff.1 h
    have F2 := Aside0.mk h2
    clear h2
    cases t2 with
    | false =>
      simp only [Bool.false_eq_true, if_false, Option.some.injEq, Prod.mk.injEq] at h
      obtain ⟨rfl, rfl, rfl⟩ := h
      go_enter Try.func37, Try.ntmps37
      go_wp2_with (first | ((with_reducible refine gate_dst (N := 2) rfl ?_); refine be (cs := #[.int .i64 a0_0, .slice A0_1 l0_1.length c0_1]) (t := 35) ?_; intro g2 hg w1 hbox hb; replace HQ := Aside0.mk (HQ.out.addB hg hbox hb); clear hb hbox hg) | ((with_reducible refine gate_dst (N := 4) rfl ?_); refine be (cs := #[.slice none 0 0, .slice none 0 0, .slice none 0 0]) (t := 37) ?_; intro g4 hg w2 hbox hb; replace HQ := Aside0.mk (HQ.out.addB hg hbox hb); clear hb hbox hg; obtain ⟨hz0, hz1, hf0, hf1⟩ := bc2 (HQ.out.bx (List.Mem.tail _ (List.Mem.head _)))) | ((with_reducible refine gate_callee (f := 79) rfl ?_); refine goesL_ (some 6) rfl rfl Try.func79 (by kernel_rfl) rfl #[.agg #[.int .i64 a0_0, .slice A0_1 l0_1.length c0_1]] rfl ul ?_; refine (impl_NetOk.calls a0_0 _ _ l0_1 true _ (Kd.C_below HR0.out HQ.out.hB) HC0.out F1.out).mono ?_; rintro e w3 ⟨rfl, hb⟩; refine ⟨_, rfl, ?_⟩; replace HQ := Aside0.mk (HQ.out.below hb); clear hb hz0 hz1 hf0 hf1; obtain ⟨hz0, hz1, hf0, hf1⟩ := bc2 (HQ.out.bx (List.Mem.tail _ (List.Mem.head _)))) | (go_at_call 80; refine (impl_permuted.calls _ _ l1 a0_0 false _ (Kd.C_below HR1.out HQ.out.hB) HC1.out F2.out).mono ?_; rintro e w4 ⟨rfl, hb⟩; replace HQ := Aside0.mk (HQ.out.below hb); clear hb hz0 hz1 hf0 hf1; obtain ⟨hy0, hy1, hy2, he0, he1, he2⟩ := bc3 (HQ.out.bx (List.Mem.head _))))
      have BK4 := HQ.out.bx (List.Mem.head _)
      refine bodyPost_ret (results_cell_row rfl _ _ g4 37 #[.slice none 0 0, .slice none 0 0, .slice none 0 0] (0, 0) _ rfl (pu3 _ _ _ BK4.out) Try.underlying37 rfl (by kernel_rfl)) rfl ?_
      exact ⟨_, _, _, 0, 0, rfl, Rk3.nil _ _, (HQ.out.set3 _ _ _).hB⟩
    | true =>
      simp only [if_true] at h
      obtain ⟨⟨b1, b2, b3⟩, h3, h⟩ := Option.bind_eq_some_iff.1 h
      simp only [Option.some.injEq, Prod.mk.injEq] at h
      obtain ⟨rfl, rfl, rfl⟩ := h
      have F3 := Aside0.mk h3
      clear h3
      go_enter Try.func37, Try.ntmps37
      go_wp2_with (first | ((with_reducible refine gate_dst (N := 2) rfl ?_); refine be (cs := #[.int .i64 a0_0, .slice A0_1 l0_1.length c0_1]) (t := 35) ?_; intro g2 hg w1 hbox hb; replace HQ := Aside0.mk (HQ.out.addB hg hbox hb); clear hb hbox hg) | ((with_reducible refine gate_dst (N := 4) rfl ?_); refine be (cs := #[.slice none 0 0, .slice none 0 0, .slice none 0 0]) (t := 37) ?_; intro g4 hg w2 hbox hb; replace HQ := Aside0.mk (HQ.out.addB hg hbox hb); clear hb hbox hg; obtain ⟨hz0, hz1, hf0, hf1⟩ := bc2 (HQ.out.bx (List.Mem.tail _ (List.Mem.head _)))) | ((with_reducible refine gate_callee (f := 79) rfl ?_); refine goesL_ (some 6) rfl rfl Try.func79 (by kernel_rfl) rfl #[.agg #[.int .i64 a0_0, .slice A0_1 l0_1.length c0_1]] rfl ul ?_; refine (impl_NetOk.calls a0_0 _ _ l0_1 true _ (Kd.C_below HR0.out HQ.out.hB) HC0.out F1.out).mono ?_; rintro e w3 ⟨rfl, hb⟩; refine ⟨_, rfl, ?_⟩; replace HQ := Aside0.mk (HQ.out.below hb); clear hb hz0 hz1 hf0 hf1; obtain ⟨hz0, hz1, hf0, hf1⟩ := bc2 (HQ.out.bx (List.Mem.tail _ (List.Mem.head _)))) | (go_at_call 80; refine (impl_permuted.calls _ _ l1 a0_0 true _ (Kd.C_below HR1.out HQ.out.hB) HC1.out F2.out).mono ?_; rintro e w4 ⟨rfl, hb⟩; replace HQ := Aside0.mk (HQ.out.below hb); clear hb hz0 hz1 hf0 hf1; obtain ⟨hz0, hz1, hf0, hf1⟩ := bc2 (HQ.out.bx (List.Mem.tail _ (List.Mem.head _)))) | ((with_reducible refine gate_callee (f := 71) rfl ?_); refine goesL_ (some 18) rfl rfl Try.func71 (by kernel_rfl) rfl #[.agg #[.int .i64 a0_0, .slice A0_1 l0_1.length c0_1], .slice A1 l1.length c1] rfl ul ?_; refine (impl_rankOf.callsW a0_0 _ _ l0_1 _ _ l1 b1 b2 b3 _ (Kd.C_below HR0.out HQ.out.hB) HC0.out (Kd.C_below HR1.out HQ.out.hB) HC1.out F3.out).mono ?_; rintro e w5 ⟨v0, v1, v2, lo, mid, rfl, h3, hb⟩; refine ⟨_, rfl, ?_⟩; have R3 := Aside0.mk (Rk3.lower h3 HQ.out.hB.size); replace HQ := Aside0.mk (HQ.out.below hb); clear hb h3 hz0 hz1 hf0 hf1; obtain ⟨Ax, cx, ex⟩ := Kd.R_slice R3.out.2.1; subst ex; obtain ⟨Ay, cy, ey⟩ := Kd.S_slice R3.out.2.2.1; subst ey; obtain ⟨Az, cz, ez⟩ := Kd.S_slice R3.out.2.2.2; subst ez; obtain ⟨hy0, hy1, hy2, he0, he1, he2⟩ := bc3 (HQ.out.bx (List.Mem.head _))))
      have BK4 := HQ.out.bx (List.Mem.head _)
      refine bodyPost_ret (results_cell_row rfl _ _ g4 37 #[.slice Ax b1.length cx, .slice Ay b2.length cy, .slice Az b3.length cz] (0, 0) _ rfl (pu3 _ _ _ BK4.out) Try.underlying37 rfl (by kernel_rfl)) rfl ?_
      exact ⟨_, _, _, lo, mid, rfl, Rk3.set R3.out BK4.out _ _ _, (HQ.out.set3 _ _ _).hB⟩
set_option maxHeartbeats 4000000 in
set_option maxRecDepth 100000 in
theorem laws_toRank.callsW (k : Nat) (A0 : Option Addr) (c0 : Nat) (l0 : List Int) (A1 : Option Addr) (c1 : Nat) (l1 : List (List Int)) (A2 : Option Addr) (c2 : Nat) (l2 : List (List Int)) (w : World) (hr0 : Kd.C (Kd.int .i64) w A0 l0.length l0) (hc0 : l0.length ≤ c0) (hr1 : Kd.C (Kd.slice 3 (Kd.int .i64)) w A1 l1.length l1) (hc1 : l1.length ≤ c1) (hr2 : Kd.C (Kd.slice 3 (Kd.int .i64)) w A2 l2.length l2) (hc2 : l2.length ≤ c2) (h0 : laws_toIntS.f k l0 = some l0) (h1 : laws_toIntSS.f k l1 = some l1) (h2 : laws_toIntSS.f k l2 = some l2) :
    Calls Try.prog 18 #[.agg #[.slice A0 l0.length c0, .slice A1 l1.length c1, .slice A2 l2.length c2]] w fun e w' => ∃ v0_ v1_ v2_ : Value, ∃ lo mid : Nat, e = .returned (.agg #[v0_, v1_, v2_]) ∧ Rk3 w' w.heap.size lo mid v0_ v1_ v2_ l0 l1 l2 ∧ Below w.heap.size w w' := by
  have hu28 := Try.underlying28
  have hu37 := Try.underlying37
  have HR0 := Aside0.mk hr0; have HC0 := Aside0.mk hc0
  have HR1 := Aside0.mk hr1; have HC1 := Aside0.mk hc1
  have HR2 := Aside0.mk hr2; have HC2 := Aside0.mk hc2
  have E0 := Aside0.mk h0; have E1 := Aside0.mk h1; have E2 := Aside0.mk h2
  have HQ := Aside0.mk (XQ.start w)
  clear hr0 hc0 hr1 hc1 hr2 hc2 h0 h1 h2
  go_enter Try.func18, Try.ntmps18
  go_upto_region 2 with (first | ((with_reducible refine gate_dst (N := 1) rfl ?_); refine be (cs := #[.slice A0 l0.length c0, .slice A1 l1.length c1, .slice A2 l2.length c2]) (t := 28) ?_; intro g1 hg w1 hbox hb; replace HQ := Aside0.mk (HQ.out.addB hg hbox hb); clear hb hbox hg) | ((with_reducible refine gate_dst (N := 2) rfl ?_); refine be (cs := #[.slice none 0 0, .slice none 0 0, .slice none 0 0]) (t := 37) ?_; intro g2 hg w2 hbox hb; replace HQ := Aside0.mk (HQ.out.addB hg hbox hb); clear hb hbox hg) | ((with_reducible refine gate_dst (N := 3) rfl ?_); refine be (cs := #[.slice none 0 0, .slice none 0 0, .slice none 0 0]) (t := 37) ?_; intro g3 hg w3 hbox hb; replace HQ := Aside0.mk (HQ.out.addB hg hbox hb); clear hb hbox hg))
  obtain ⟨hz0, hz1, hz2, hf0, hf1, hf2⟩ := bc3 (HQ.out.bx (List.Mem.tail _ (List.Mem.tail _ (List.Mem.head _))))
  go_upto_region 3 with (go_at_call 30; refine (laws_toIntS.calls k A0 c0 l0 l0 _ (Kd.C_below HR0.out HQ.out.hB) HC0.out E0.out).mono ?_; rintro e w4 ⟨v0, rfl, ho, hb⟩; obtain ⟨Ax, cx, ex⟩ := Kd.R_slice ho; subst ex; replace HQ := Aside0.mk (HQ.out.addR hb ho); clear hb ho hz0 hz1 hz2 hf0 hf1 hf2; obtain ⟨hz0, hz1, hz2, hf0, hf1, hf2⟩ := bc3 (HQ.out.bx (List.Mem.tail _ (List.Mem.head _))))
  clear hz0 hz1 hz2 hf0 hf1 hf2
  have HQ2 := Aside0.mk (XQ.mark [.row w3.heap.size w4.heap.size (.slice Ax l0.length cx) l0] (o := .box g3 #[.slice none 0 0, .slice none 0 0, .slice none 0 0] 37) (o' := .box g3 #[.slice Ax l0.length cx, .slice none 0 0, .slice none 0 0] 37) (W1 := w4.setCell ⟨g3, 0, none⟩ (.slice Ax l0.length cx)) HQ.out rfl rfl (below_set HQ.out.hB (HQ.out.hO _ (List.Mem.tail _ (List.Mem.head _))).1) (kept_set _ _ _ _) (blk_put (HQ.out.at (List.Mem.tail _ (List.Mem.head _))) 0 _ rfl))
  clear HQ
  generalize hw5 : w4.setCell ⟨g3, 0, none⟩ (.slice Ax l0.length cx) = w5 at HQ2 ⊢
  have S45 : Aside0 (w4.heap.size ≤ w5.heap.size) := ⟨by rw [← hw5]; simp⟩
  clear hw5
  have HQ := HQ2
  clear HQ2
  obtain ⟨hz0, hz1, hz2, hf0, hf1, hf2⟩ := bc3 (HQ.out.bx (List.Mem.tail _ (List.Mem.tail _ (List.Mem.tail _ (List.Mem.head _)))))
  go_upto_region 4 with (go_at_call 55; refine (laws_toIntSS.calls k A1 c1 l1 l1 _ (Kd.C_below HR1.out HQ.out.hB) HC1.out E1.out).mono ?_; rintro e w6 ⟨v1, rfl, ho, hb⟩; obtain ⟨Ay, cy, ey⟩ := Kd.S_slice ho; subst ey; have S56 : Aside0 (w5.heap.size ≤ w6.heap.size) := ⟨hb.size⟩; replace HQ := Aside0.mk (HQ.out.addT hb ho); clear hb ho hz0 hz1 hz2 hf0 hf1 hf2; obtain ⟨hz0, hz1, hz2, hf0, hf1, hf2⟩ := bc3 (HQ.out.bx (List.Mem.tail _ (List.Mem.tail _ (List.Mem.head _)))))
  clear hz0 hz1 hz2 hf0 hf1 hf2
  have HQ2 := Aside0.mk (XQ.mark [.tab w5.heap.size w6.heap.size (.slice Ay l1.length cy) l1, .row w3.heap.size w4.heap.size (.slice Ax l0.length cx) l0] (o := .box g3 #[.slice Ax l0.length cx, .slice none 0 0, .slice none 0 0] 37) (o' := .box g3 #[.slice Ax l0.length cx, .slice Ay l1.length cy, .slice none 0 0] 37) (W1 := w6.setCell ⟨g3, 1, none⟩ (.slice Ay l1.length cy)) HQ.out rfl rfl (below_set HQ.out.hB (HQ.out.hO _ (List.Mem.tail _ (List.Mem.tail _ (List.Mem.head _)))).1) (kept_set _ _ _ _) (blk_put (HQ.out.at (List.Mem.tail _ (List.Mem.tail _ (List.Mem.head _)))) 1 _ rfl))
  clear HQ
  generalize hw7 : w6.setCell ⟨g3, 1, none⟩ (.slice Ay l1.length cy) = w7 at HQ2 ⊢
  have S67 : Aside0 (w6.heap.size ≤ w7.heap.size) := ⟨by rw [← hw7]; simp⟩
  clear hw7
  have HQ := HQ2
  clear HQ2
  obtain ⟨hz0, hz1, hz2, hf0, hf1, hf2⟩ := bc3 (HQ.out.bx (List.Mem.tail _ (List.Mem.tail _ (List.Mem.tail _ (List.Mem.tail _ (List.Mem.head _))))))
  go_upto_region 5 with (go_at_call 55; refine (laws_toIntSS.calls k A2 c2 l2 l2 _ (Kd.C_below HR2.out HQ.out.hB) HC2.out E2.out).mono ?_; rintro e w8 ⟨v2, rfl, ho, hb⟩; obtain ⟨Az, cz, ez⟩ := Kd.S_slice ho; subst ez; replace HQ := Aside0.mk (HQ.out.addT hb ho); clear hb ho hz0 hz1 hz2 hf0 hf1 hf2; obtain ⟨hz0, hz1, hz2, hf0, hf1, hf2⟩ := bc3 (HQ.out.bx (List.Mem.tail _ (List.Mem.tail _ (List.Mem.tail _ (List.Mem.head _))))))
  clear hz0 hz1 hz2 hf0 hf1 hf2
  have HQ2 := Aside0.mk (XQ.mark [.tab w7.heap.size w8.heap.size (.slice Az l2.length cz) l2, .tab w5.heap.size w6.heap.size (.slice Ay l1.length cy) l1, .row w3.heap.size w4.heap.size (.slice Ax l0.length cx) l0] (o := .box g3 #[.slice Ax l0.length cx, .slice Ay l1.length cy, .slice none 0 0] 37) (o' := .box g3 #[.slice Ax l0.length cx, .slice Ay l1.length cy, .slice Az l2.length cz] 37) (W1 := w8.setCell ⟨g3, 2, none⟩ (.slice Az l2.length cz)) HQ.out rfl rfl (below_set HQ.out.hB (HQ.out.hO _ (List.Mem.tail _ (List.Mem.tail _ (List.Mem.tail _ (List.Mem.head _))))).1) (kept_set _ _ _ _) (blk_put (HQ.out.at (List.Mem.tail _ (List.Mem.tail _ (List.Mem.tail _ (List.Mem.head _))))) 2 _ rfl))
  clear HQ
  generalize hw9 : w8.setCell ⟨g3, 2, none⟩ (.slice Az l2.length cz) = w9 at HQ2 ⊢
  clear hw9
  have HQ := HQ2
  clear HQ2
  have B3 := HQ.out.bx (List.Mem.tail _ (List.Mem.tail _ (List.Mem.tail _ (List.Mem.head _))))
  have B2 := HQ.out.bx (List.Mem.tail _ (List.Mem.tail _ (List.Mem.tail _ (List.Mem.tail _ (List.Mem.head _)))))
  obtain ⟨hz0, hz1, hz2, hf0, hf1, hf2⟩ := bc3 B3
  obtain ⟨hy0, hy1, hy2, he0, he1, he2⟩ := bc3 B2
  go_wp2
  refine bodyPost_ret (results_cell_row rfl _ _ g2 37 #[.slice Ax l0.length cx, .slice Ay l1.length cy, .slice Az l2.length cz] (0, 0) _ rfl (pu3 _ _ _ B2.out) Try.underlying37 rfl (by kernel_rfl)) rfl ?_
  have t0 := HQ.out.tb (List.Mem.head _)
  have t1 := HQ.out.tb (List.Mem.tail _ (List.Mem.head _))
  have t2 := HQ.out.rw_ (List.Mem.tail _ (List.Mem.tail _ (List.Mem.head _)))
  have q0 := (HQ.out.hO _ (List.Mem.head _)).2.1
  have q1 := (HQ.out.hO _ (List.Mem.tail _ (List.Mem.head _))).2.1
  refine ⟨_, _, _, w5.heap.size, w7.heap.size, rfl, Rk3.set ⟨(Nat.le_trans S56.out S67.out), Kd.R_mono t2 (fun k hk => by have := S45.out; omega), Kd.S_mono t1 (fun k hk => by have := S67.out; omega), Kd.S_mono t0 (fun k hk => hk.1)⟩ B2.out _ _ _, ?_⟩
  have hb := HQ.out.hB
  have hg2 := (HQ.out.hO _ (List.Mem.tail _ (List.Mem.tail _ (List.Mem.tail _ (List.Mem.tail _ (List.Mem.head _)))))).1
  exact below_set (below_set (below_set hb hg2) hg2) hg2
end Go.Proofs.Ytdlaaccnaokdnaa.P
