/- Contract: spec.l30Rank, by hand: a net, an order, the rank they make, and at times one place of it spoilt. -/
import Derived.Test.YtdlaaccnaokdnaaHLq
import Derived.Test.YtdlaaccnaokdnaaPFSpecL30Order
import Derived.Test.YtdlaaccnaokdnaaPFSpecL30Net
import Derived.Test.YtdlaaccnaokdnaaGOpen
set_option linter.unusedVariables false
set_option linter.unusedSimpArgs false
namespace Go.Proofs.Ytdlaaccnaokdnaa.P
open Go.RowKit Go.Proofs.Ytdlaaccnaokdnaa.M Go.Proofs.YtdlaaccnaokdnaaV.PrintWords Go.Proofs.YtdlaaccnaokdnaaV.PrintLast Go.Proofs.YtdlaaccnaokdnaaV.PrintMore
def lr2_T : Bool × List (List Nat × List Nat) := (true, [([], []), ([], []), ([], []), ([2], [2]), ([1, 3], [1, 3]), ([0, 4, 4], [0, 4]), ([], []), ([6, 5, 5, 0, 1, 2, 3, 4, 5, 6], [5, 6])])
def lr2_B : List Nat := [0, 0, 0, 4, 14, 31, 0, 127]
theorem lr2_tab : rtab .any (opsOf Try.f74 2) = lr2_T := by kernel_rfl
theorem lr2_bits : waitsOk lr2_T.2 lr2_B = true := by kernel_rfl
def lr7_T : Bool × List (List Nat × List Nat) := (true, [([], []), ([0], [0]), ([], []), ([1, 2], [1, 2]), ([3], [3]), ([], []), ([], []), ([6], [6]), ([4, 5, 0, 1, 2, 3, 4, 5, 6, 7], [4, 5]), ([8, 7, 7, 0, 1, 2, 3, 4, 5, 6, 7], [7, 8])])
def lr7_B : List Nat := [0, 1, 0, 7, 15, 0, 0, 64, 255, 511]
theorem lr7_tab : rtab .any (opsOf Try.f74 7) = lr7_T := by kernel_rfl
theorem lr7_bits : waitsOk lr7_T.2 lr7_B = true := by kernel_rfl
def lr9_T : Bool × List (List Nat × List Nat) := (true, [([], []), ([0], [0]), ([], []), ([1, 2], [1, 2]), ([3], [3]), ([], []), ([], []), ([], []), ([6, 7], [6, 7]), ([4, 5, 0, 1, 2, 3, 4, 5, 6, 7, 8], [4, 5]), ([9, 8, 8, 0, 1, 2, 3, 4, 5, 6, 7, 8], [8, 9])])
def lr9_B : List Nat := [0, 1, 0, 7, 15, 0, 0, 0, 192, 511, 1023]
theorem lr9_tab : rtab .any (opsOf Try.f74 9) = lr9_T := by kernel_rfl
theorem lr9_bits : waitsOk lr9_T.2 lr9_B = true := by kernel_rfl
def lr11_T : Bool × List (List Nat × List Nat) := (true, [([], []), ([0], [0]), ([], []), ([1, 2], [1, 2]), ([0, 1, 2, 3], []), ([4, 3, 3, 0, 1, 2, 3], [3, 4])])
def lr11_B : List Nat := [0, 1, 0, 7, 15, 31]
theorem lr11_tab : rtab .any (opsOf Try.f74 11) = lr11_T := by kernel_rfl
theorem lr11_bits : waitsOk lr11_T.2 lr11_B = true := by kernel_rfl
def lr12_T : Bool × List (List Nat × List Nat) := (true, [([], []), ([], []), ([0, 0], [0]), ([1, 2, 0, 1, 2], [1])])
def lr12_B : List Nat := [0, 0, 1, 7]
theorem lr12_tab : rtab .any (opsOf Try.f74 12) = lr12_T := by kernel_rfl
theorem lr12_bits : waitsOk lr12_T.2 lr12_B = true := by kernel_rfl
def tput (G : List (List Int)) (a b x : Int) : List (List Int) := G.set a.toNat ((rd_L5 G a).set b.toNat x)
def inT (G : List (List Int)) (a b : Int) : Prop := 0 ≤ a ∧ a < G.length ∧ 0 ≤ b ∧ b < (rd_L5 G a).length
instance (G : List (List Int)) (a b : Int) : Decidable (inT G a b) := by unfold inT; infer_instance
def l30Spoil (k : Nat) (s : List Int) (p : Int) (o : List Int) (C V : List (List Int)) (a b c : Int) : Option (List Int × List (List Int) × List (List Int) × Int) :=
  if c = 0 then (if inT C a b then (spec_l30Rd_pick.f k s p 5).bind fun d => some (o, tput C a b d.1, V, d.2) else none)
  else if c = 1 then (if inT V a b then (spec_l30Rd_one.f k s p [-1, 0, 9]).bind fun d => some (o, C, tput V a b d.1, d.2) else none)
  else if c = 2 then (if o.length < 17592186044416 then some (o ++ [0], C, V, p) else none)
  else some (o, C, V, p)
def spec_l30Rank.f (k : Nat) (s0_0 : List Int) (s0_1 : Int) : Option (Int × List S61 × List Int × List (List Int) × List (List Int) × Int) :=
  (spec_l30Net.f k s0_0 s0_1).bind fun b1 => (spec_l30Order.f k s0_0 b1.2.2 b1.1).bind fun b2 => (spec_l8Make.f b1.1 b1.2.1 b2.1).bind fun b3 => (spec_l30Rd_pick.f k s0_0 b2.2 b1.1).bind fun b4 => (spec_l30Rd_pick.f k s0_0 b4.2 b1.1).bind fun b5 => (spec_l30Rd_pick.f k s0_0 b5.2 16).bind fun b6 =>
    (l30Spoil k s0_0 b6.2 b3.1 b3.2.1 b3.2.2 b4.1 b5.1 b6.1).bind fun b7 => some (b1.1, b1.2.1, b7.1, b7.2.1, b7.2.2.1, b7.2.2.2)
set_option maxHeartbeats 8000000 in
set_option maxRecDepth 100000 in
theorem spec_l30Rank.calls (k : Nat) (g : Nat) (s0_0 : List Int) (s0_1 : Int) (r1 : Int) (r2 : List S61) (r3 : List Int) (r4 r5 : List (List Int)) (r6 : Int) (w0 w : World) (hI : IsS116 w0 w g s0_0 s0_1) (hB : Below w0.heap.size w0 w) (h : spec_l30Rank.f k s0_0 s0_1 = some (r1, r2, r3, r4, r5, r6)) :
    Calls Try.prog 74 #[.pointer (some ⟨g, 0, none⟩)] w fun e w' => ∃ v0_ v1_ v2_ v3_ : Value, e = .returned (.tuple #[.agg #[.int .i64 r1, v0_], .agg #[v1_, v2_, v3_]]) ∧ Kd.R k61 61 w' w.heap.size (fun _ => True) v0_ r2 ∧ Kd.R (Kd.int .i64) 3 w' w.heap.size (fun _ => True) v1_ r3 ∧ Kd.S (Kd.slice 3 (Kd.int .i64)) 25 w' w.heap.size (fun k_ => some k_ ≠ (v1_ : Value).ownBlock ∧ some k_ ≠ (v3_ : Value).ownBlock) v2_ r4 ∧ Kd.S (Kd.slice 3 (Kd.int .i64)) 25 w' w.heap.size (fun k_ => some k_ ≠ (v1_ : Value).ownBlock ∧ some k_ ≠ (v2_ : Value).ownBlock) v3_ r5 ∧ IsS116 w0 w' g s0_0 r6 ∧ Below w0.heap.size w0 w' ∧ KeepBut w w' g none := by
  have hu35 := Try.underlying35
  have hu37 := Try.underlying37
  have hu25 := Try.underlying25
  have hu26 := Try.underlying26
  have HQ := Aside0.mk (LQ.start hI hB)
  clear hI hB
  unfold spec_l30Rank.f at h
  replace h := Option.bind_eq_some_iff.1 h
  obtain ⟨⟨n, l, p1⟩, a1, h⟩ := h
  replace h := Option.bind_eq_some_iff.1 h
  obtain ⟨⟨o, p2⟩, a2, h⟩ := h
  replace h := Option.bind_eq_some_iff.1 h
  obtain ⟨⟨o3, C, V⟩, a3, h⟩ := h
  replace h := Option.bind_eq_some_iff.1 h
  obtain ⟨⟨a, p3⟩, a4, h⟩ := h
  replace h := Option.bind_eq_some_iff.1 h
  obtain ⟨⟨b, p4⟩, a5, h⟩ := h
  replace h := Option.bind_eq_some_iff.1 h
  obtain ⟨⟨c, p5⟩, a6, h⟩ := h
  replace h := Option.bind_eq_some_iff.1 h
  obtain ⟨⟨o4, C4, V4, p6⟩, a7, h⟩ := h
  dsimp only at a2 a3 a4 a5 a6 a7 h
  simp only [Option.some.injEq, Prod.mk.injEq] at h
  obtain ⟨rfl, rfl, rfl, rfl, rfl, rfl⟩ := h
  have A1 := Aside0.mk a1; have A2 := Aside0.mk a2; have A3 := Aside0.mk a3; have A4 := Aside0.mk a4; have A5 := Aside0.mk a5; have A6 := Aside0.mk a6; have A7 := Aside0.mk a7
  clear a1 a2 a3 a4 a5 a6 a7
  go_enter Try.func74, Try.ntmps74
  go_upto_region 2 with (first | ((with_reducible refine gate_dst (N := 2) rfl ?_); refine be (cs := #[.int .i64 0, .slice none 0 0]) (t := 35) ?_; intro gb2 hg w2 hbox hb; (first | (replace HQ := Aside0.mk (HQ.out.newbox hg hbox hb (.inl rfl))) | (replace HQ := Aside0.mk ((HQ.out.drewN _).newbox hg hbox hb (.inl rfl))) | (replace HQ := Aside0.mk (HQ.out.drew.newbox hg hbox hb (.inl rfl)))); clear hb hbox hg) | ((with_reducible refine gate_dst (N := 3) rfl ?_); refine be (cs := #[.slice none 0 0, .slice none 0 0, .slice none 0 0]) (t := 37) ?_; intro gb3 hg w3 hbox hb; (first | (replace HQ := Aside0.mk (HQ.out.newbox hg hbox hb (.inr rfl))) | (replace HQ := Aside0.mk ((HQ.out.drewN _).newbox hg hbox hb (.inr rfl))) | (replace HQ := Aside0.mk (HQ.out.drew.newbox hg hbox hb (.inr rfl)))); clear hb hbox hg) | ((with_reducible refine gate_callee (f := 110) rfl ?_); refine goesL_ (some 9) rfl rfl Try.func110 (by kernel_rfl) rfl #[.pointer (some ⟨g, 0, none⟩)] rfl ul ?_; (with_reducible refine (spec_l30Net.calls k g s0_0 s0_1 n l p1 w0 _ ?side1 ?side2 A1.out).mono ?_); (case side1 => exact HQ.out.hI); (case side2 => first | exact HQ.out.hB | exact (HQ.out.drewN _).hB | exact HQ.out.drew.hB); rintro e w5 ⟨v9, rfl, ho0, hi, hb, hk⟩; refine ⟨_, rfl, ?_⟩; obtain ⟨AN, cN, eN⟩ := Kd.R_slice ho0; subst eN; (first | (replace HQ := Aside0.mk ((HQ.out.call hi hb hk).addN ho0 HQ.out.size)) | (replace HQ := Aside0.mk (((HQ.out.drewN _).call hi hb hk).addN ho0 (HQ.out.drewN _).size)) | (replace HQ := Aside0.mk ((HQ.out.drew.call hi hb hk).addN ho0 HQ.out.drew.size))); clear hi hb hk ho0) | ((with_reducible refine gate_dst (N := 4) rfl ?_); refine be (cs := #[.int .i64 0, .slice none 0 0]) (t := 35) ?_; intro gb4 hg w6 hbox hb; (first | (replace HQ := Aside0.mk (HQ.out.newbox hg hbox hb (.inl rfl))) | (replace HQ := Aside0.mk ((HQ.out.drewN _).newbox hg hbox hb (.inl rfl))) | (replace HQ := Aside0.mk (HQ.out.drew.newbox hg hbox hb (.inl rfl)))); clear hb hbox hg; have BK4 := Aside0.mk (HQ.out.hX (gb4, #[.int .i64 0, .slice none 0 0], 35) (by simp)).2.2; obtain ⟨hz0, hz1, hf0, hf1⟩ := bc2 BK4))
  replace HQ := Aside0.mk (((HQ.out.setbox (j := 0) (u := .int .i64 n) (cs' := #[.int .i64 n, .slice none 0 0]) rfl).setbox (j := 1) (u := .slice AN l.length cN) (cs' := #[.int .i64 n, .slice AN l.length cN]) rfl).drew)
  clear BK4 hz0 hz1 hf0 hf1
  have BK4 : Aside0 ((((w6.setCell ⟨gb4, 0, none⟩ (.int .i64 n)).setCell ⟨gb4, 1, none⟩ (.slice AN l.length cN)).drew).heap[gb4]? = some (.cells #[.int .i64 n, .slice AN l.length cN] 35 (0, 0))) := HQ.out.x0
  refine start_ (n := 8) (S := fun w' => w'.cell? ⟨gb4, 0, none⟩ = some (.int .i64 n) ∧ w'.cell? ⟨gb4, 1, none⟩ = some (.slice AN l.length cN)) (ds := [7]) (zt 8 0) (by kernel_rfl) rfl (by kernel_rfl) (b2_ BK4) (fun hHeld => ?_)
  refine with_tabW lr2_tab lr2_bits (fun HT_ HW_ => ?_)
  generalize ((w6.setCell ⟨gb4, 0, none⟩ (.int .i64 n)).setCell ⟨gb4, 1, none⟩ (.slice AN l.length cN)).drew = w7 at HQ BK4 hHeld ⊢
  refine qz HT_ 1 ?_; refine qz HT_ 2 ?_; refine qt HT_ HW_ hHeld 3 ?_; refine qt HT_ HW_ hHeld 0 ?_
  refine join_ (σ := Value × Value × Value × Value × Nat × Nat × Nat) 1 (zt 8 127) (fun s_ => [(14, s_.1), (15, .agg #[s_.2.1, s_.2.2.1, s_.2.2.2.1]), (5, .pointer (some ⟨s_.2.2.2.2.1, 0, none⟩))]) (fun s_ w' => (w'.cell? ⟨gb4, 0, none⟩ = some (.int .i64 n) ∧ w'.cell? ⟨gb4, 1, none⟩ = some (.slice AN l.length cN)) ∧ LQ w0 w g s0_0 p2 [(s_.2.2.2.2.1, #[.slice none 0 0, .slice none 0 0, .slice none 0 0], 37), (gb4, #[.int .i64 n, .slice AN l.length cN], 35), (gb3, #[.slice none 0 0, .slice none 0 0, .slice none 0 0], 37), (gb2, #[.int .i64 0, .slice none 0 0], 35)] [(.slice AN l.length cN, l)] [(fun k => s_.2.2.2.2.2.2 ≤ k, s_.2.1, o3)] [(fun k => k < s_.2.2.2.2.2.1 ∧ k < s_.2.2.2.2.2.2, s_.2.2.1, C), (fun k => s_.2.2.2.2.2.1 ≤ k ∧ k < s_.2.2.2.2.2.2, s_.2.2.2.1, V)] w') ?_ ?_; rotate_left
  · intro hCont
    refine two_ (i := 4) (j := 6) (Ni := some 14) (Nj := some 5) (zt 8 31) (zt 8 79) rfl rfl rfl rfl (two_of HT_.out (by kernel_rfl)) (by decide) (by decide) (fun K hK => ?_) (fun K hK => ?_)
    · refine goes_ Try.func77 (by kernel_rfl) rfl #[.pointer (some ⟨g, 0, none⟩), .int .i64 n] (by rfl) rfl rfl ul ?_; with_reducible refine (spec_l30Order.calls k g s0_0 p1 n o p2 w0 _ ?side1 ?side2 A2.out).mono ?_; (case side1 => exact HQ.out.hI); (case side2 => first | exact HQ.out.hB | exact (HQ.out.drewN _).hB | exact HQ.out.drew.hB); rintro e w21 ⟨v14, rfl, ho0, hi, hb, hk⟩; refine ⟨_, rfl, ?_⟩; obtain ⟨Ao, co, eo⟩ := Kd.R_slice ho0; subst eo; replace HQ := Aside0.mk ((HQ.out.call hi hb hk).addR ho0 HQ.out.size); clear hi hb hk ho0
      replace BK4 : Aside0 ((w21).heap[gb4]? = some (.cells #[.int .i64 n, .slice AN l.length cN] 35 (0, 0))) := HQ.out.x0
      refine hK.out _ _ (b2_ BK4) (fun hHeld => ?_); clear hK K; refine nz ?_
      refine two_ (i := 5) (j := 6) (Ni := some 15) (Nj := some 5) (zt 8 63) (zt 8 95) rfl rfl rfl rfl (two_of HT_.out (by kernel_rfl)) (by decide) (by decide) (fun K hK => ?_) (fun K hK => ?_)
      · refine goes_ Try.func68 (by kernel_rfl) rfl #[.agg #[.int .i64 n, .slice AN l.length cN], .slice Ao o.length co] (by rfl) rfl rfl ul ?_; with_reducible refine (spec_l8Make.callsW n AN cN l Ao co o o3 C V _ ?side1 ?side2 ?side3 ?side4 A3.out).mono ?_; (case side1 => exact (Kd.R_reads' (HQ.out.hN (.slice AN l.length cN, l) (by simp))).2.2); (case side2 => exact (Kd.R_reads' (HQ.out.hN (.slice AN l.length cN, l) (by simp))).2.1); (case side3 => exact (Kd.R_reads' (HQ.out.hR (fun _ => True, .slice Ao o.length co, o) (by simp))).2.2); (case side4 => exact (Kd.R_reads' (HQ.out.hR (fun _ => True, .slice Ao o.length co, o) (by simp))).2.1); rintro e w22 ⟨vO, vC, vV, mid, hi_, rfl, h0, h1, h2, hb⟩; refine ⟨_, rfl, ?_⟩; replace HQ := Aside0.mk (((((HQ.out.below hb).addS h2 HQ.out.size).addS h1 HQ.out.size).addR h0 HQ.out.size).rs1); clear h0 h1 h2 hb
        replace BK4 : Aside0 ((w22).heap[gb4]? = some (.cells #[.int .i64 n, .slice AN l.length cN] 35 (0, 0))) := HQ.out.x0
        refine hK.out _ _ (b2_ BK4) (fun hHeld => ?_); clear hK K; refine nz ?_
        refine qo HT_ 6 (fun K hK => ?_)
        refine box_step ?hg (N := 5) ?hd (cs := #[.slice none 0 0, .slice none 0 0, .slice none 0 0]) (t := 37) ?hr ?_; (case hd => rfl); (case hg => rfl); (case hr => first | (go_simp; done) | (go_simp; rfl)); intro gb5 hg w23 hbox hb; replace HQ := Aside0.mk (HQ.out.newbox hg hbox hb (.inr rfl)); clear hg hbox hb
        replace BK4 : Aside0 ((w23).heap[gb4]? = some (.cells #[.int .i64 n, .slice AN l.length cN] 35 (0, 0))) := HQ.out.x1
        refine hK.out _ _ (b2_ BK4) (fun hHeld => ?_); clear hK K; refine nz ?_
        exact norm_ (by simp only [putAll, Act.put, List.setIfInBounds_toArray, List.set_cons_zero, List.set_cons_succ]) (hCont (.slice Ao o.length co, vO, vC, vV, gb5, mid, hi_) _ ⟨b2_ BK4, HQ.out⟩)
      · refine box_step ?hg (N := 5) ?hd (cs := #[.slice none 0 0, .slice none 0 0, .slice none 0 0]) (t := 37) ?hr ?_; (case hd => rfl); (case hg => rfl); (case hr => first | (go_simp; done) | (go_simp; rfl)); intro gb5 hg w24 hbox hb; replace HQ := Aside0.mk (HQ.out.newbox hg hbox hb (.inr rfl)); clear hg hbox hb
        replace BK4 : Aside0 ((w24).heap[gb4]? = some (.cells #[.int .i64 n, .slice AN l.length cN] 35 (0, 0))) := HQ.out.x1
        refine hK.out _ _ (b2_ BK4) (fun hHeld => ?_); clear hK K; refine nz ?_
        refine qo HT_ 5 (fun K hK => ?_)
        refine goes_ Try.func68 (by kernel_rfl) rfl #[.agg #[.int .i64 n, .slice AN l.length cN], .slice Ao o.length co] (by rfl) rfl rfl ul ?_; with_reducible refine (spec_l8Make.callsW n AN cN l Ao co o o3 C V _ ?side1 ?side2 ?side3 ?side4 A3.out).mono ?_; (case side1 => exact (Kd.R_reads' (HQ.out.hN (.slice AN l.length cN, l) (by simp))).2.2); (case side2 => exact (Kd.R_reads' (HQ.out.hN (.slice AN l.length cN, l) (by simp))).2.1); (case side3 => exact (Kd.R_reads' (HQ.out.hR (fun _ => True, .slice Ao o.length co, o) (by simp))).2.2); (case side4 => exact (Kd.R_reads' (HQ.out.hR (fun _ => True, .slice Ao o.length co, o) (by simp))).2.1); rintro e w25 ⟨vO, vC, vV, mid, hi_, rfl, h0, h1, h2, hb⟩; refine ⟨_, rfl, ?_⟩; replace HQ := Aside0.mk (((((HQ.out.below hb).addS h2 HQ.out.size).addS h1 HQ.out.size).addR h0 HQ.out.size).rs1); clear h0 h1 h2 hb
        replace BK4 : Aside0 ((w25).heap[gb4]? = some (.cells #[.int .i64 n, .slice AN l.length cN] 35 (0, 0))) := HQ.out.x1
        refine hK.out _ _ (b2_ BK4) (fun hHeld => ?_); clear hK K; refine nz ?_
        exact norm_ (by simp only [putAll, Act.put, List.setIfInBounds_toArray, List.set_cons_zero, List.set_cons_succ]) (hCont (.slice Ao o.length co, vO, vC, vV, gb5, mid, hi_) _ ⟨b2_ BK4, HQ.out⟩)
    · refine box_step ?hg (N := 5) ?hd (cs := #[.slice none 0 0, .slice none 0 0, .slice none 0 0]) (t := 37) ?hr ?_; (case hd => rfl); (case hg => rfl); (case hr => first | (go_simp; done) | (go_simp; rfl)); intro gb5 hg w26 hbox hb; replace HQ := Aside0.mk (HQ.out.newbox hg hbox hb (.inr rfl)); clear hg hbox hb
      replace BK4 : Aside0 ((w26).heap[gb4]? = some (.cells #[.int .i64 n, .slice AN l.length cN] 35 (0, 0))) := HQ.out.x1
      refine hK.out _ _ (b2_ BK4) (fun hHeld => ?_); clear hK K; refine nz ?_
      refine qo HT_ 4 (fun K hK => ?_)
      refine goes_ Try.func77 (by kernel_rfl) rfl #[.pointer (some ⟨g, 0, none⟩), .int .i64 n] (by rfl) rfl rfl ul ?_; with_reducible refine (spec_l30Order.calls k g s0_0 p1 n o p2 w0 _ ?side1 ?side2 A2.out).mono ?_; (case side1 => exact HQ.out.hI); (case side2 => first | exact HQ.out.hB | exact (HQ.out.drewN _).hB | exact HQ.out.drew.hB); rintro e w27 ⟨v14, rfl, ho0, hi, hb, hk⟩; refine ⟨_, rfl, ?_⟩; obtain ⟨Ao, co, eo⟩ := Kd.R_slice ho0; subst eo; replace HQ := Aside0.mk ((HQ.out.call hi hb hk).addR ho0 HQ.out.size); clear hi hb hk ho0
      replace BK4 : Aside0 ((w27).heap[gb4]? = some (.cells #[.int .i64 n, .slice AN l.length cN] 35 (0, 0))) := HQ.out.x1
      refine hK.out _ _ (b2_ BK4) (fun hHeld => ?_); clear hK K; refine nz ?_
      refine qo HT_ 5 (fun K hK => ?_)
      refine goes_ Try.func68 (by kernel_rfl) rfl #[.agg #[.int .i64 n, .slice AN l.length cN], .slice Ao o.length co] (by rfl) rfl rfl ul ?_; with_reducible refine (spec_l8Make.callsW n AN cN l Ao co o o3 C V _ ?side1 ?side2 ?side3 ?side4 A3.out).mono ?_; (case side1 => exact (Kd.R_reads' (HQ.out.hN (.slice AN l.length cN, l) (by simp))).2.2); (case side2 => exact (Kd.R_reads' (HQ.out.hN (.slice AN l.length cN, l) (by simp))).2.1); (case side3 => exact (Kd.R_reads' (HQ.out.hR (fun _ => True, .slice Ao o.length co, o) (by simp))).2.2); (case side4 => exact (Kd.R_reads' (HQ.out.hR (fun _ => True, .slice Ao o.length co, o) (by simp))).2.1); rintro e w28 ⟨vO, vC, vV, mid, hi_, rfl, h0, h1, h2, hb⟩; refine ⟨_, rfl, ?_⟩; replace HQ := Aside0.mk (((((HQ.out.below hb).addS h2 HQ.out.size).addS h1 HQ.out.size).addR h0 HQ.out.size).rs1); clear h0 h1 h2 hb
      replace BK4 : Aside0 ((w28).heap[gb4]? = some (.cells #[.int .i64 n, .slice AN l.length cN] 35 (0, 0))) := HQ.out.x1
      refine hK.out _ _ (b2_ BK4) (fun hHeld => ?_); clear hK K; refine nz ?_
      exact norm_ (by simp only [putAll, Act.put, List.setIfInBounds_toArray, List.set_cons_zero, List.set_cons_succ]) (hCont (.slice Ao o.length co, vO, vC, vV, gb5, mid, hi_) _ ⟨b2_ BK4, HQ.out⟩)
  rintro ⟨v14, vO, vC, vV, gb5, mid, hi_⟩ w8 ⟨hS_, hq_⟩
  clear BK4 hHeld
  replace HQ : Aside0 (LQ w0 w g s0_0 p2 [(gb5, #[.slice none 0 0, .slice none 0 0, .slice none 0 0], 37), (gb4, #[.int .i64 n, .slice AN l.length cN], 35), (gb3, #[.slice none 0 0, .slice none 0 0, .slice none 0 0], 37), (gb2, #[.int .i64 0, .slice none 0 0], 35)] [(.slice AN l.length cN, l)] [(fun k => hi_ ≤ k, vO, o3)] [(fun k => k < mid ∧ k < hi_, vC, C), (fun k => mid ≤ k ∧ k < hi_, vV, V)] w8) := ⟨hq_⟩
  clear hq_ hS_
  obtain ⟨AO, cO, eO⟩ := Kd.R_slice (HQ.out.hR (fun k => hi_ ≤ k, vO, o3) (by simp))
  replace eO : vO = .slice AO o3.length cO := eO
  subst eO
  obtain ⟨AC, cC, eC⟩ := Kd.S_slice (HQ.out.hS (fun k => k < mid ∧ k < hi_, vC, C) (by simp))
  replace eC : vC = .slice AC C.length cC := eC
  subst eC
  obtain ⟨AV, cV, eV⟩ := Kd.S_slice (HQ.out.hS (fun k => mid ≤ k ∧ k < hi_, vV, V) (by simp))
  replace eV : vV = .slice AV V.length cV := eV
  subst eV
  refine norm_ (a' := ?_) ?_ ?_; rotate_left
  · simp only [putAll, Act.put, List.setIfInBounds_toArray, List.set_cons_zero, List.set_cons_succ]; rfl
  have BK5 : Aside0 (w8.heap[gb5]? = some (.cells #[.slice none 0 0, .slice none 0 0, .slice none 0 0] 37 (0, 0))) := HQ.out.x0
  obtain ⟨hz0, hz1, hz2, hf0, hf1, hf2⟩ := bc3 BK5
  refine last_ (i := 7) (N := none) (zt 8 255) rfl rfl (one_of HT_.out (by kernel_rfl)) (by decide) (fun K hK => ?_); refine skip_ (w1 := ?_) (by rfl) rfl ?_ ?_; rotate_left
  · go_simp; rfl
  refine hK.out _ _ ?_; clear hK K; refine done_ (done_of HT_.out (by kernel_rfl)) ?_
  clear HT_ HW_ hz0 hz1 hz2 hf0 hf1 hf2 BK5
  replace HQ := Aside0.mk (((HQ.out.setbox (j := 0) (u := .slice AO o3.length cO) (cs' := #[.slice AO o3.length cO, .slice none 0 0, .slice none 0 0]) rfl).setbox (j := 1) (u := .slice AC C.length cC) (cs' := #[.slice AO o3.length cO, .slice AC C.length cC, .slice none 0 0]) rfl).setbox (j := 2) (u := .slice AV V.length cV) (cs' := #[.slice AO o3.length cO, .slice AC C.length cC, .slice AV V.length cV]) rfl)
  generalize ((w8.setCell ⟨gb5, 0, none⟩ (.slice AO o3.length cO)).setCell ⟨gb5, 1, none⟩ (.slice AC C.length cC)).setCell ⟨gb5, 2, none⟩ (.slice AV V.length cV) = w9 at HQ ⊢
  have BK5 : Aside0 (w9.heap[gb5]? = some (.cells #[.slice AO o3.length cO, .slice AC C.length cC, .slice AV V.length cV] 37 (0, 0))) := HQ.out.x0
  have BK4 : Aside0 (w9.heap[gb4]? = some (.cells #[.int .i64 n, .slice AN l.length cN] 35 (0, 0))) := HQ.out.x1
  obtain ⟨hz0, hz1, hf0, hf1⟩ := bc2 BK4
  have a7 := A7.out
  unfold l30Spoil at a7
  by_cases c0 : c = 0
  · rw [if_pos c0] at a7
    by_cases hin : inT C a b
    rotate_left
    · rw [if_neg hin] at a7; cases a7
    rw [if_pos hin] at a7
    replace a7 := Option.bind_eq_some_iff.1 a7
    obtain ⟨⟨d, p7⟩, a8, a7⟩ := a7
    dsimp only at a8 a7
    simp only [Option.some.injEq, Prod.mk.injEq] at a7
    obtain ⟨rfl, rfl, rfl, rfl⟩ := a7
    have A8 := Aside0.mk a8
    obtain ⟨ha0, ha1, hb0, hb1⟩ := hin
    have IA0 := Aside0.mk ha0; have IA1 := Aside0.mk ha1; have IB0 := Aside0.mk hb0; have IB1 := Aside0.mk hb1
    clear a8 ha0 ha1 hb0 hb1 A7
    obtain ⟨c0b0, c0b1⟩ := dq c0
    clear c0
    go_upto_region 7 with (first | ((with_reducible refine gate_callee (f := 78) rfl ?_); refine goesL_ (some 19) rfl rfl Try.func78 (by kernel_rfl) rfl #[.pointer (some ⟨g, 0, none⟩), .int .i64 n] rfl ul ?_; (with_reducible refine (spec_l30Rd_pick.calls k g s0_0 p2 n a p3 w0 _ ?side1 ?side2 A4.out).mono ?_); (case side1 => exact HQ.out.hI); (case side2 => first | exact HQ.out.hB | exact (HQ.out.drewN _).hB | exact HQ.out.drew.hB); rintro e w10 ⟨rfl, hi, hb, hk⟩; refine ⟨_, rfl, ?_⟩; (first | (replace HQ := Aside0.mk (HQ.out.call hi hb hk)) | (replace HQ := Aside0.mk ((HQ.out.drewN _).call hi hb hk)) | (replace HQ := Aside0.mk (HQ.out.drew.call hi hb hk))); clear hi hb hk; clear hz0 hz1 hf0 hf1; replace BK4 : Aside0 ((w10).heap[gb4]? = some (.cells #[.int .i64 n, .slice AN l.length cN] 35 (0, 0))) := HQ.out.x1; obtain ⟨hz0, hz1, hf0, hf1⟩ := bc2 BK4) | ((with_reducible refine gate_callee (f := 78) rfl ?_); refine goesL_ (some 23) rfl rfl Try.func78 (by kernel_rfl) rfl #[.pointer (some ⟨g, 0, none⟩), .int .i64 n] rfl ul ?_; (with_reducible refine (spec_l30Rd_pick.calls k g s0_0 p3 n b p4 w0 _ ?side1 ?side2 A5.out).mono ?_); (case side1 => exact HQ.out.hI); (case side2 => first | exact HQ.out.hB | exact (HQ.out.drewN _).hB | exact HQ.out.drew.hB); rintro e w11 ⟨rfl, hi, hb, hk⟩; refine ⟨_, rfl, ?_⟩; (first | (replace HQ := Aside0.mk (HQ.out.call hi hb hk)) | (replace HQ := Aside0.mk ((HQ.out.drewN _).call hi hb hk)) | (replace HQ := Aside0.mk (HQ.out.drew.call hi hb hk))); clear hi hb hk; clear hz0 hz1 hf0 hf1; replace BK4 : Aside0 ((w11).heap[gb4]? = some (.cells #[.int .i64 n, .slice AN l.length cN] 35 (0, 0))) := HQ.out.x1; obtain ⟨hz0, hz1, hf0, hf1⟩ := bc2 BK4) | ((with_reducible refine gate_callee (f := 78) rfl ?_); refine goesL_ (some 25) rfl rfl Try.func78 (by kernel_rfl) rfl #[.pointer (some ⟨g, 0, none⟩), .int .i64 16] rfl ul ?_; (with_reducible refine (spec_l30Rd_pick.calls k g s0_0 p4 16 c p5 w0 _ ?side1 ?side2 A6.out).mono ?_); (case side1 => exact HQ.out.hI); (case side2 => first | exact HQ.out.hB | exact (HQ.out.drewN _).hB | exact HQ.out.drew.hB); rintro e w12 ⟨rfl, hi, hb, hk⟩; refine ⟨_, rfl, ?_⟩; (first | (replace HQ := Aside0.mk (HQ.out.call hi hb hk)) | (replace HQ := Aside0.mk ((HQ.out.drewN _).call hi hb hk)) | (replace HQ := Aside0.mk (HQ.out.drew.call hi hb hk))); clear hi hb hk; clear hz0 hz1 hf0 hf1; replace BK4 : Aside0 ((w12).heap[gb4]? = some (.cells #[.int .i64 n, .slice AN l.length cN] 35 (0, 0))) := HQ.out.x1; obtain ⟨hz0, hz1, hf0, hf1⟩ := bc2 BK4))
    clear hz0 hz1 hf0 hf1 BK4 BK5
    replace HQ := Aside0.mk HQ.out.drew
    obtain ⟨ax_, A', c', eA, hx, hl, hi⟩ := at_L5 (Kd.S_reads' (HQ.out.hS (fun k => k < mid ∧ k < hi_, .slice AC C.length cC, C) (by simp))).2.2 a IA0.out IA1.out
    subst eA
    obtain ⟨g', eg, hgg, hv0, hfr, hput⟩ := HQ.out.put (fun k h1 h2 => by omega) (fun k h1 h2 => by omega) IA0.out IA1.out IB0.out IB1.out hx
    subst eg
    clear hv0 hfr hput hl hi
    have BK5 : Aside0 ((w12.drew).heap[gb5]? = some (.cells #[.slice AO o3.length cO, .slice (some ax_) C.length cC, .slice AV V.length cV] 37 (0, 0))) := HQ.out.x0
    have z0 := eq_true IA0.out; have z1 := eq_true IA1.out; have z2 := eq_true IB0.out; have z3 := eq_true IB1.out
    refine start_ (n := 10) (S := fun w' => w'.cell? ⟨gb5, 1, none⟩ = some (.slice (some ax_) C.length cC) ∧ w'.cell? (ax_.add a.toNat) = some (.slice (some ⟨g', 0, none⟩) (rd_L5 C a).length c')) (ds := [9]) (zt 10 0) (by kernel_rfl) rfl (by kernel_rfl) ⟨(blk_cell BK5.out 1).trans rfl, hx⟩ (fun hHeld => ?_)
    refine with_tabW lr7_tab lr7_bits (fun HT_ HW_ => ?_)
    generalize w12.drew = w13 at HQ BK5 hx hHeld ⊢
    clear hx
    refine qz HT_ 0 ?_; refine qz HT_ 2 ?_; refine qt HT_ HW_ hHeld 1 ?_; refine qz HT_ 3 ?_; refine qt HT_ HW_ hHeld 4 ?_; refine qz HT_ 5 ?_; refine qz HT_ 6 ?_
    refine qo HT_ 7 (fun K hK => ?_)
    refine goes_ Try.func78 (by kernel_rfl) rfl #[.pointer (some ⟨g, 0, none⟩), .int .i64 5] (by rfl) rfl rfl ul ?_; with_reducible refine (spec_l30Rd_pick.calls k g s0_0 p5 5 d p7 w0 _ ?side1 ?side2 A8.out).mono ?_; (case side1 => exact HQ.out.hI); (case side2 => first | exact HQ.out.hB | exact (HQ.out.drewN _).hB | exact HQ.out.drew.hB); rintro e w14 ⟨rfl, hi, hb, hk⟩; refine ⟨_, rfl, ?_⟩
    have hx2 := keep_cell hk hHeld.2 (by rw [add_block]; exact Kd.own_blk (IsS116.own_neS HQ.out.hI (HQ.out.hS (fun k => k < mid ∧ k < hi_, .slice (some ax_) C.length cC, C) (by simp)) (by decide)))
    replace HQ := Aside0.mk (HQ.out.call hi hb hk)
    clear hi hb hk hHeld
    obtain ⟨g2, eg, hgg2, hv0, hfr, hput⟩ := HQ.out.put (fun k h1 h2 => by omega) (fun k h1 h2 => by omega) IA0.out IA1.out IB0.out IB1.out hx2
    cases eg
    replace BK5 : Aside0 ((w14).heap[gb5]? = some (.cells #[.slice AO o3.length cO, .slice (some ax_) C.length cC, .slice AV V.length cV] 37 (0, 0))) := HQ.out.x0
    refine hK.out _ _ ⟨(blk_cell BK5.out 1).trans rfl, hx2⟩ (fun hHeld => ?_); clear hK K; refine nz ?_
    refine qz HT_ 8 ?_
    refine last_ (i := 9) (N := none) (zt 10 1023) rfl rfl (one_of HT_.out (by kernel_rfl)) (by decide) (fun K hK => ?_); refine skip_ (w1 := ?_) (by rfl) rfl ?_ ?_; rotate_left
    · go_simp; rfl
    refine hK.out _ _ ?_; clear hK K; refine done_ (done_of HT_.out (by kernel_rfl)) ?_
    clear HT_ HW_ hHeld BK5 hv0 hfr hx2
    replace HQ := Aside0.mk (hput d)
    clear hput
    generalize w14.setCell ⟨g', b.toNat, none⟩ (.int .i64 d) = w15 at HQ ⊢
    go_upto_region 12 with (fail)
    replace HQ := Aside0.mk HQ.out.drew
    have BK5 : Aside0 ((w15.drew).heap[gb5]? = some (.cells #[.slice AO o3.length cO, .slice (some ax_) C.length cC, .slice AV V.length cV] 37 (0, 0))) := HQ.out.x0
    have BK4 : Aside0 ((w15.drew).heap[gb4]? = some (.cells #[.int .i64 n, .slice AN l.length cN] 35 (0, 0))) := HQ.out.x1
    have BK2 : Aside0 (w15.drew.heap[gb2]? = some (.cells #[.int .i64 0, .slice none 0 0] 35 (0, 0))) := HQ.out.x3
    refine start_ (n := 4) (S := fun w' => w'.cell? ⟨gb4, 0, none⟩ = some (.int .i64 n) ∧ w'.cell? ⟨gb4, 1, none⟩ = some (.slice AN l.length cN) ∧ w'.cell? ⟨gb5, 0, none⟩ = some (.slice AO o3.length cO) ∧ w'.cell? ⟨gb5, 1, none⟩ = some (.slice (some ax_) C.length cC) ∧ w'.cell? ⟨gb5, 2, none⟩ = some (.slice AV V.length cV)) (ds := [3]) (zt 4 0) (by kernel_rfl) rfl (by kernel_rfl) ⟨(b2_ BK4).1, (b2_ BK4).2, (bc3 BK5).1, (bc3 BK5).2.1, (bc3 BK5).2.2.1⟩ (fun hHeld => ?_)
    refine with_tabW lr12_tab lr12_bits (fun HT_ HW_ => ?_)
    generalize w15.drew = w16 at HQ BK5 BK4 BK2 hHeld ⊢
    refine qt HT_ HW_ hHeld 0 ?_; refine qt HT_ HW_ hHeld 1 ?_
    obtain ⟨hz0, hz1, hf0, hf1⟩ := bc2 BK2
    refine qo HT_ 2 (fun K hK => ?_); refine skip_ (w1 := ?_) (by rfl) rfl ?_ ?_; rotate_left
    · go_simp; rfl
    replace HQ := Aside0.mk ((HQ.out.rot.setbox (j := 0) (u := .int .i64 n) (cs' := #[.int .i64 n, .slice none 0 0]) rfl).setbox (j := 1) (u := .slice AN l.length cN) (cs' := #[.int .i64 n, .slice AN l.length cN]) rfl)
    clear BK5 BK4 BK2 hz0 hz1 hf0 hf1 hHeld
    generalize (w16.setCell ⟨gb2, 0, none⟩ (.int .i64 n)).setCell ⟨gb2, 1, none⟩ (.slice AN l.length cN) = w17 at HQ hK ⊢
    have BK5 : Aside0 (w17.heap[gb5]? = some (.cells #[.slice AO o3.length cO, .slice (some ax_) C.length cC, .slice AV V.length cV] 37 (0, 0))) := HQ.out.x2
    have BK4 : Aside0 (w17.heap[gb4]? = some (.cells #[.int .i64 n, .slice AN l.length cN] 35 (0, 0))) := HQ.out.x3
    have BK3 : Aside0 (w17.heap[gb3]? = some (.cells #[.slice none 0 0, .slice none 0 0, .slice none 0 0] 37 (0, 0))) := HQ.out.x1
    refine hK.out _ _ ⟨(b2_ BK4).1, (b2_ BK4).2, (bc3 BK5).1, (bc3 BK5).2.1, (bc3 BK5).2.2.1⟩ (fun hHeld => ?_); clear hK K
    obtain ⟨hz0, hz1, hz2, hf0, hf1, hf2⟩ := bc3 BK3
    refine last_ (i := 3) (N := none) (zt 4 15) rfl rfl (one_of HT_.out (by kernel_rfl)) (by decide) (fun K hK => ?_); refine skip_ (w1 := ?_) (by rfl) rfl ?_ ?_; rotate_left
    · go_simp; rfl
    refine hK.out _ _ ?_; clear hK K; refine done_ (done_of HT_.out (by kernel_rfl)) ?_
    clear HT_ HW_ hHeld BK5 BK4 BK3 hz0 hz1 hz2 hf0 hf1 hf2
    replace HQ := Aside0.mk (((HQ.out.swapB.setbox (j := 0) (u := .slice AO o3.length cO) (cs' := #[.slice AO o3.length cO, .slice none 0 0, .slice none 0 0]) rfl).setbox (j := 1) (u := .slice (some ax_) C.length cC) (cs' := #[.slice AO o3.length cO, .slice (some ax_) C.length cC, .slice none 0 0]) rfl).setbox (j := 2) (u := .slice AV V.length cV) (cs' := #[.slice AO o3.length cO, .slice (some ax_) C.length cC, .slice AV V.length cV]) rfl)
    generalize ((w17.setCell ⟨gb3, 0, none⟩ (.slice AO o3.length cO)).setCell ⟨gb3, 1, none⟩ (.slice (some ax_) C.length cC)).setCell ⟨gb3, 2, none⟩ (.slice AV V.length cV) = w18 at HQ ⊢
    try go_wp2
    refine bodyPost_ret (results_cc rfl _ _ gb2 gb3 35 37 #[.int .i64 n, .slice AN l.length cN] #[.slice AO o3.length cO, .slice (some ax_) C.length cC, .slice AV V.length cV] (0, 0) (0, 0) _ _ rfl HQ.out.x1.out Try.underlying35 rfl (by kernel_rfl) rfl HQ.out.x0.out Try.underlying37 rfl (by kernel_rfl)) rfl ?_
    exact ⟨_, _, _, _, rfl, HQ.out.ends (fun k hk hk2 => by omega) (fun k hk hk2 => by omega) (fun k hk hk2 => by omega)⟩
  obtain ⟨c0b0, c0b1⟩ := dQ c0
  rw [if_neg c0] at a7
  clear c0
  by_cases c1 : c = 1
  · rw [if_pos c1] at a7
    by_cases hin : inT V a b
    rotate_left
    · rw [if_neg hin] at a7; cases a7
    rw [if_pos hin] at a7
    replace a7 := Option.bind_eq_some_iff.1 a7
    obtain ⟨⟨d, p7⟩, a8, a7⟩ := a7
    dsimp only at a8 a7
    simp only [Option.some.injEq, Prod.mk.injEq] at a7
    obtain ⟨rfl, rfl, rfl, rfl⟩ := a7
    have A8 := Aside0.mk a8
    obtain ⟨ha0, ha1, hb0, hb1⟩ := hin
    have IA0 := Aside0.mk ha0; have IA1 := Aside0.mk ha1; have IB0 := Aside0.mk hb0; have IB1 := Aside0.mk hb1
    clear a8 ha0 ha1 hb0 hb1 A7
    obtain ⟨c1b0, c1b1⟩ := dq c1
    clear c1
    go_upto_region 9 with (first | ((with_reducible refine gate_callee (f := 78) rfl ?_); refine goesL_ (some 19) rfl rfl Try.func78 (by kernel_rfl) rfl #[.pointer (some ⟨g, 0, none⟩), .int .i64 n] rfl ul ?_; (with_reducible refine (spec_l30Rd_pick.calls k g s0_0 p2 n a p3 w0 _ ?side1 ?side2 A4.out).mono ?_); (case side1 => exact HQ.out.hI); (case side2 => first | exact HQ.out.hB | exact (HQ.out.drewN _).hB | exact HQ.out.drew.hB); rintro e w10 ⟨rfl, hi, hb, hk⟩; refine ⟨_, rfl, ?_⟩; (first | (replace HQ := Aside0.mk (HQ.out.call hi hb hk)) | (replace HQ := Aside0.mk ((HQ.out.drewN _).call hi hb hk)) | (replace HQ := Aside0.mk (HQ.out.drew.call hi hb hk))); clear hi hb hk; clear hz0 hz1 hf0 hf1; replace BK4 : Aside0 ((w10).heap[gb4]? = some (.cells #[.int .i64 n, .slice AN l.length cN] 35 (0, 0))) := HQ.out.x1; obtain ⟨hz0, hz1, hf0, hf1⟩ := bc2 BK4) | ((with_reducible refine gate_callee (f := 78) rfl ?_); refine goesL_ (some 23) rfl rfl Try.func78 (by kernel_rfl) rfl #[.pointer (some ⟨g, 0, none⟩), .int .i64 n] rfl ul ?_; (with_reducible refine (spec_l30Rd_pick.calls k g s0_0 p3 n b p4 w0 _ ?side1 ?side2 A5.out).mono ?_); (case side1 => exact HQ.out.hI); (case side2 => first | exact HQ.out.hB | exact (HQ.out.drewN _).hB | exact HQ.out.drew.hB); rintro e w11 ⟨rfl, hi, hb, hk⟩; refine ⟨_, rfl, ?_⟩; (first | (replace HQ := Aside0.mk (HQ.out.call hi hb hk)) | (replace HQ := Aside0.mk ((HQ.out.drewN _).call hi hb hk)) | (replace HQ := Aside0.mk (HQ.out.drew.call hi hb hk))); clear hi hb hk; clear hz0 hz1 hf0 hf1; replace BK4 : Aside0 ((w11).heap[gb4]? = some (.cells #[.int .i64 n, .slice AN l.length cN] 35 (0, 0))) := HQ.out.x1; obtain ⟨hz0, hz1, hf0, hf1⟩ := bc2 BK4) | ((with_reducible refine gate_callee (f := 78) rfl ?_); refine goesL_ (some 25) rfl rfl Try.func78 (by kernel_rfl) rfl #[.pointer (some ⟨g, 0, none⟩), .int .i64 16] rfl ul ?_; (with_reducible refine (spec_l30Rd_pick.calls k g s0_0 p4 16 c p5 w0 _ ?side1 ?side2 A6.out).mono ?_); (case side1 => exact HQ.out.hI); (case side2 => first | exact HQ.out.hB | exact (HQ.out.drewN _).hB | exact HQ.out.drew.hB); rintro e w12 ⟨rfl, hi, hb, hk⟩; refine ⟨_, rfl, ?_⟩; (first | (replace HQ := Aside0.mk (HQ.out.call hi hb hk)) | (replace HQ := Aside0.mk ((HQ.out.drewN _).call hi hb hk)) | (replace HQ := Aside0.mk (HQ.out.drew.call hi hb hk))); clear hi hb hk; clear hz0 hz1 hf0 hf1; replace BK4 : Aside0 ((w12).heap[gb4]? = some (.cells #[.int .i64 n, .slice AN l.length cN] 35 (0, 0))) := HQ.out.x1; obtain ⟨hz0, hz1, hf0, hf1⟩ := bc2 BK4))
    clear hz0 hz1 hf0 hf1 BK4 BK5
    replace HQ := Aside0.mk HQ.out.drew.swapS
    obtain ⟨ax_, A', c', eA, hx, hl, hi⟩ := at_L5 (Kd.S_reads' (HQ.out.hS (fun k => mid ≤ k ∧ k < hi_, .slice AV V.length cV, V) (by simp))).2.2 a IA0.out IA1.out
    subst eA
    obtain ⟨g', eg, hgg, hv0, hfr, hput⟩ := HQ.out.put (fun k h1 h2 => by omega) (fun k h1 h2 => by omega) IA0.out IA1.out IB0.out IB1.out hx
    subst eg
    clear hv0 hfr hput hl hi
    have BK5 : Aside0 ((w12.drew).heap[gb5]? = some (.cells #[.slice AO o3.length cO, .slice AC C.length cC, .slice (some ax_) V.length cV] 37 (0, 0))) := HQ.out.x0
    have z0 := eq_true IA0.out; have z1 := eq_true IA1.out; have z2 := eq_true IB0.out; have z3 := eq_true IB1.out
    refine start_ (n := 11) (S := fun w' => w'.cell? ⟨gb5, 2, none⟩ = some (.slice (some ax_) V.length cV) ∧ w'.cell? (ax_.add a.toNat) = some (.slice (some ⟨g', 0, none⟩) (rd_L5 V a).length c')) (ds := [10]) (zt 11 0) (by kernel_rfl) rfl (by kernel_rfl) ⟨(blk_cell BK5.out 2).trans rfl, hx⟩ (fun hHeld => ?_)
    refine with_tabW lr9_tab lr9_bits (fun HT_ HW_ => ?_)
    generalize w12.drew = w13 at HQ BK5 hx hHeld ⊢
    clear hx
    refine qz HT_ 0 ?_; refine qz HT_ 2 ?_; refine qt HT_ HW_ hHeld 1 ?_; refine qz HT_ 3 ?_; refine qt HT_ HW_ hHeld 4 ?_; refine qz HT_ 5 ?_; refine qz HT_ 6 ?_
    obtain ⟨yl, hyl⟩ : ∃ y : List Int, y = [(-1), 0, 9] := ⟨_, rfl⟩
    have a8 := A8.out
    rw [← hyl] at a8
    replace A8 := Aside0.mk a8
    clear a8
    refine qo HT_ 7 (fun K hK => ?_)
    refine Kd.R_lit_step (Kd.int .i64) _ 3 ?hg (N := 46) ?hd (xs := ([(-1), 0, 9] : List Int)) (inner := [.int .i64 (-1), .int .i64 0, .int .i64 9]) (ok := fun _ => True) (okp := fun _ => True) ?hr ?hp (fun _ hk => hk) trivial (Below.refl _ _) (Nat.le_refl _) (by simp) ?_; (case hd => rfl); (case hg => rfl); (case hr => first | (go_simp; done) | (go_simp; rfl)); (case hp => exact (Reps.one (show Kd.M (Kd.int .i64) _ _ _ (-1) [.int .i64 (-1)] from rfl) (Reps.one (show Kd.M (Kd.int .i64) _ _ _ 0 [.int .i64 0] from rfl) (Reps.one (show Kd.M (Kd.int .i64) _ _ _ 9 [.int .i64 9] from rfl) (Reps.none _ _)))))
    intro v46 w19 ho hb hg_ hnew_
    clear hg_ hnew_
    rw [← hyl] at ho
    have hx1 := (hb.cell (World.block_lt_of_cell? _ _ hHeld.2)).trans hHeld.2
    replace HQ := Aside0.mk (HQ.out.below hb)
    have HL := Aside0.mk ho
    obtain ⟨AL, cL, eL⟩ := Kd.R_slice ho
    subst eL
    clear hb ho hHeld
    replace BK5 : Aside0 ((w19).heap[gb5]? = some (.cells #[.slice AO o3.length cO, .slice AC C.length cC, .slice (some ax_) V.length cV] 37 (0, 0))) := HQ.out.x0
    refine hK.out _ _ ⟨(blk_cell BK5.out 2).trans rfl, hx1⟩ (fun hHeld => ?_); clear hK K hx1; refine nz ?_
    refine qo HT_ 8 (fun K hK => ?_)
    refine goes_ Try.func111 (by kernel_rfl) rfl #[.pointer (some ⟨g, 0, none⟩), .slice AL yl.length cL] (by rfl) rfl rfl ul ?_; with_reducible refine (spec_l30Rd_one.calls k g s0_0 p5 AL cL yl d p7 w0 _ ?side1 ?side2 ?side3 ?side4 ?side5 A8.out).mono ?_; (case side1 => exact HQ.out.hI); (case side2 => first | exact HQ.out.hB | exact (HQ.out.drewN _).hB | exact HQ.out.drew.hB); (case side3 => exact (Kd.R_reads' HL.out).2.2); (case side4 => exact (Kd.R_reads' HL.out).2.1); (case side5 => exact far_slice (IsS116.own_ne HQ.out.hI HL.out (by decide))); rintro e w14 ⟨rfl, hi, hb, hk⟩; refine ⟨_, rfl, ?_⟩
    have hx2 := keep_cell hk hHeld.2 (by rw [add_block]; exact Kd.own_blk (IsS116.own_neS HQ.out.hI (HQ.out.hS (fun k => mid ≤ k ∧ k < hi_, .slice (some ax_) V.length cV, V) (by simp)) (by decide)))
    replace HQ := Aside0.mk (HQ.out.call hi hb hk)
    clear hi hb hk hHeld
    obtain ⟨g2, eg, hgg2, hv0, hfr, hput⟩ := HQ.out.put (fun k h1 h2 => by omega) (fun k h1 h2 => by omega) IA0.out IA1.out IB0.out IB1.out hx2
    cases eg
    replace BK5 : Aside0 ((w14).heap[gb5]? = some (.cells #[.slice AO o3.length cO, .slice AC C.length cC, .slice (some ax_) V.length cV] 37 (0, 0))) := HQ.out.x0
    refine hK.out _ _ ⟨(blk_cell BK5.out 2).trans rfl, hx2⟩ (fun hHeld => ?_); clear hK K; refine nz ?_
    refine qz HT_ 9 ?_
    refine last_ (i := 10) (N := none) (zt 11 2047) rfl rfl (one_of HT_.out (by kernel_rfl)) (by decide) (fun K hK => ?_); refine skip_ (w1 := ?_) (by rfl) rfl ?_ ?_; rotate_left
    · go_simp; rfl
    refine hK.out _ _ ?_; clear hK K; refine done_ (done_of HT_.out (by kernel_rfl)) ?_
    clear HT_ HW_ hHeld BK5 hv0 hfr hx2
    replace HQ := Aside0.mk (hput d)
    replace HQ := Aside0.mk HQ.out.swapS
    clear hput
    generalize w14.setCell ⟨g', b.toNat, none⟩ (.int .i64 d) = w15 at HQ ⊢
    go_upto_region 12 with (fail)
    replace HQ := Aside0.mk HQ.out.drew
    have BK5 : Aside0 ((w15.drew).heap[gb5]? = some (.cells #[.slice AO o3.length cO, .slice AC C.length cC, .slice (some ax_) V.length cV] 37 (0, 0))) := HQ.out.x0
    have BK4 : Aside0 ((w15.drew).heap[gb4]? = some (.cells #[.int .i64 n, .slice AN l.length cN] 35 (0, 0))) := HQ.out.x1
    have BK2 : Aside0 (w15.drew.heap[gb2]? = some (.cells #[.int .i64 0, .slice none 0 0] 35 (0, 0))) := HQ.out.x3
    refine start_ (n := 4) (S := fun w' => w'.cell? ⟨gb4, 0, none⟩ = some (.int .i64 n) ∧ w'.cell? ⟨gb4, 1, none⟩ = some (.slice AN l.length cN) ∧ w'.cell? ⟨gb5, 0, none⟩ = some (.slice AO o3.length cO) ∧ w'.cell? ⟨gb5, 1, none⟩ = some (.slice AC C.length cC) ∧ w'.cell? ⟨gb5, 2, none⟩ = some (.slice (some ax_) V.length cV)) (ds := [3]) (zt 4 0) (by kernel_rfl) rfl (by kernel_rfl) ⟨(b2_ BK4).1, (b2_ BK4).2, (bc3 BK5).1, (bc3 BK5).2.1, (bc3 BK5).2.2.1⟩ (fun hHeld => ?_)
    refine with_tabW lr12_tab lr12_bits (fun HT_ HW_ => ?_)
    generalize w15.drew = w16 at HQ BK5 BK4 BK2 hHeld ⊢
    refine qt HT_ HW_ hHeld 0 ?_; refine qt HT_ HW_ hHeld 1 ?_
    obtain ⟨hz0, hz1, hf0, hf1⟩ := bc2 BK2
    refine qo HT_ 2 (fun K hK => ?_); refine skip_ (w1 := ?_) (by rfl) rfl ?_ ?_; rotate_left
    · go_simp; rfl
    replace HQ := Aside0.mk ((HQ.out.rot.setbox (j := 0) (u := .int .i64 n) (cs' := #[.int .i64 n, .slice none 0 0]) rfl).setbox (j := 1) (u := .slice AN l.length cN) (cs' := #[.int .i64 n, .slice AN l.length cN]) rfl)
    clear BK5 BK4 BK2 hz0 hz1 hf0 hf1 hHeld
    generalize (w16.setCell ⟨gb2, 0, none⟩ (.int .i64 n)).setCell ⟨gb2, 1, none⟩ (.slice AN l.length cN) = w17 at HQ hK ⊢
    have BK5 : Aside0 (w17.heap[gb5]? = some (.cells #[.slice AO o3.length cO, .slice AC C.length cC, .slice (some ax_) V.length cV] 37 (0, 0))) := HQ.out.x2
    have BK4 : Aside0 (w17.heap[gb4]? = some (.cells #[.int .i64 n, .slice AN l.length cN] 35 (0, 0))) := HQ.out.x3
    have BK3 : Aside0 (w17.heap[gb3]? = some (.cells #[.slice none 0 0, .slice none 0 0, .slice none 0 0] 37 (0, 0))) := HQ.out.x1
    refine hK.out _ _ ⟨(b2_ BK4).1, (b2_ BK4).2, (bc3 BK5).1, (bc3 BK5).2.1, (bc3 BK5).2.2.1⟩ (fun hHeld => ?_); clear hK K
    obtain ⟨hz0, hz1, hz2, hf0, hf1, hf2⟩ := bc3 BK3
    refine last_ (i := 3) (N := none) (zt 4 15) rfl rfl (one_of HT_.out (by kernel_rfl)) (by decide) (fun K hK => ?_); refine skip_ (w1 := ?_) (by rfl) rfl ?_ ?_; rotate_left
    · go_simp; rfl
    refine hK.out _ _ ?_; clear hK K; refine done_ (done_of HT_.out (by kernel_rfl)) ?_
    clear HT_ HW_ hHeld BK5 BK4 BK3 hz0 hz1 hz2 hf0 hf1 hf2
    replace HQ := Aside0.mk (((HQ.out.swapB.setbox (j := 0) (u := .slice AO o3.length cO) (cs' := #[.slice AO o3.length cO, .slice none 0 0, .slice none 0 0]) rfl).setbox (j := 1) (u := .slice AC C.length cC) (cs' := #[.slice AO o3.length cO, .slice AC C.length cC, .slice none 0 0]) rfl).setbox (j := 2) (u := .slice (some ax_) V.length cV) (cs' := #[.slice AO o3.length cO, .slice AC C.length cC, .slice (some ax_) V.length cV]) rfl)
    generalize ((w17.setCell ⟨gb3, 0, none⟩ (.slice AO o3.length cO)).setCell ⟨gb3, 1, none⟩ (.slice AC C.length cC)).setCell ⟨gb3, 2, none⟩ (.slice (some ax_) V.length cV) = w18 at HQ ⊢
    try go_wp2
    refine bodyPost_ret (results_cc rfl _ _ gb2 gb3 35 37 #[.int .i64 n, .slice AN l.length cN] #[.slice AO o3.length cO, .slice AC C.length cC, .slice (some ax_) V.length cV] (0, 0) (0, 0) _ _ rfl HQ.out.x1.out Try.underlying35 rfl (by kernel_rfl) rfl HQ.out.x0.out Try.underlying37 rfl (by kernel_rfl)) rfl ?_
    exact ⟨_, _, _, _, rfl, HQ.out.ends (fun k hk hk2 => by omega) (fun k hk hk2 => by omega) (fun k hk hk2 => by omega)⟩
  obtain ⟨c1b0, c1b1⟩ := dQ c1
  rw [if_neg c1] at a7
  clear c1
  by_cases c2 : c = 2
  · rw [if_pos c2] at a7
    by_cases hl : o3.length < 17592186044416
    rotate_left
    · rw [if_neg hl] at a7; cases a7
    rw [if_pos hl] at a7
    simp only [Option.some.injEq, Prod.mk.injEq] at a7
    obtain ⟨hoe, rfl, rfl, rfl⟩ := a7
    have HOE := Aside0.mk hoe
    clear hoe
    have LM := Aside0.mk hl
    obtain ⟨c2b0, c2b1⟩ := dq c2
    clear c2 A7 hl
    go_upto_region 12 with (first | ((with_reducible refine gate_callee (f := 78) rfl ?_); refine goesL_ (some 19) rfl rfl Try.func78 (by kernel_rfl) rfl #[.pointer (some ⟨g, 0, none⟩), .int .i64 n] rfl ul ?_; (with_reducible refine (spec_l30Rd_pick.calls k g s0_0 p2 n a p3 w0 _ ?side1 ?side2 A4.out).mono ?_); (case side1 => exact HQ.out.hI); (case side2 => first | exact HQ.out.hB | exact (HQ.out.drewN _).hB | exact HQ.out.drew.hB); rintro e w10 ⟨rfl, hi, hb, hk⟩; refine ⟨_, rfl, ?_⟩; (first | (replace HQ := Aside0.mk (HQ.out.call hi hb hk)) | (replace HQ := Aside0.mk ((HQ.out.drewN _).call hi hb hk)) | (replace HQ := Aside0.mk (HQ.out.drew.call hi hb hk))); clear hi hb hk; clear hz0 hz1 hf0 hf1; replace BK4 : Aside0 ((w10).heap[gb4]? = some (.cells #[.int .i64 n, .slice AN l.length cN] 35 (0, 0))) := HQ.out.x1; obtain ⟨hz0, hz1, hf0, hf1⟩ := bc2 BK4) | ((with_reducible refine gate_callee (f := 78) rfl ?_); refine goesL_ (some 23) rfl rfl Try.func78 (by kernel_rfl) rfl #[.pointer (some ⟨g, 0, none⟩), .int .i64 n] rfl ul ?_; (with_reducible refine (spec_l30Rd_pick.calls k g s0_0 p3 n b p4 w0 _ ?side1 ?side2 A5.out).mono ?_); (case side1 => exact HQ.out.hI); (case side2 => first | exact HQ.out.hB | exact (HQ.out.drewN _).hB | exact HQ.out.drew.hB); rintro e w11 ⟨rfl, hi, hb, hk⟩; refine ⟨_, rfl, ?_⟩; (first | (replace HQ := Aside0.mk (HQ.out.call hi hb hk)) | (replace HQ := Aside0.mk ((HQ.out.drewN _).call hi hb hk)) | (replace HQ := Aside0.mk (HQ.out.drew.call hi hb hk))); clear hi hb hk; clear hz0 hz1 hf0 hf1; replace BK4 : Aside0 ((w11).heap[gb4]? = some (.cells #[.int .i64 n, .slice AN l.length cN] 35 (0, 0))) := HQ.out.x1; obtain ⟨hz0, hz1, hf0, hf1⟩ := bc2 BK4) | ((with_reducible refine gate_callee (f := 78) rfl ?_); refine goesL_ (some 25) rfl rfl Try.func78 (by kernel_rfl) rfl #[.pointer (some ⟨g, 0, none⟩), .int .i64 16] rfl ul ?_; (with_reducible refine (spec_l30Rd_pick.calls k g s0_0 p4 16 c p5 w0 _ ?side1 ?side2 A6.out).mono ?_); (case side1 => exact HQ.out.hI); (case side2 => first | exact HQ.out.hB | exact (HQ.out.drewN _).hB | exact HQ.out.drew.hB); rintro e w12 ⟨rfl, hi, hb, hk⟩; refine ⟨_, rfl, ?_⟩; (first | (replace HQ := Aside0.mk (HQ.out.call hi hb hk)) | (replace HQ := Aside0.mk ((HQ.out.drewN _).call hi hb hk)) | (replace HQ := Aside0.mk (HQ.out.drew.call hi hb hk))); clear hi hb hk; clear hz0 hz1 hf0 hf1; replace BK4 : Aside0 ((w12).heap[gb4]? = some (.cells #[.int .i64 n, .slice AN l.length cN] 35 (0, 0))) := HQ.out.x1; obtain ⟨hz0, hz1, hf0, hf1⟩ := bc2 BK4; obtain ⟨m, hm⟩ : ∃ m, w12.heap.size = m := ⟨_, rfl⟩; replace HQ := Aside0.mk (HQ.out.bound hm); have HMM := Aside0.mk hm; clear hm; replace BK5 : Aside0 ((w12).heap[gb5]? = some (.cells #[.slice AO o3.length cO, .slice AC C.length cC, .slice AV V.length cV] 37 (0, 0))) := HQ.out.x0; obtain ⟨hy0, hy1, hy2, hg0, hg1, hg2⟩ := bc3 BK5) | ((with_reducible refine gate_builtin (b := .append) (xs := #[.tmp 52, .tmp 53]) rfl ?_); at_builtin; refine Kd.R_append (Kd.int .i64) w.heap.size rfl (.tmp 52) (.tmp 53) 25 3 (.int .i64 0) 8 rfl Try.underlying25 info3 rfl (by decide) (by omega) (.slice AO o3.length cO) o3 0 [.int .i64 0] (fun k => hi_ ≤ k ∨ m ≤ k) (fun _ => False) rfl rfl ?aP (fun _ hk => hk.elim) ?aF ?aO (Below.refl _ _) ?aS ?aL ?_; (case aP => exact rfl); (case aF => exact (fun k hk => .inr (Nat.le_trans (Nat.le_of_eq HMM.out.symm) hk))); (case aO => exact (by (with_reducible repeat (first | apply Kd.R_alloc | apply Kd.R_drewN | apply Kd.R_drew)); exact Kd.R_mono (HQ.out.hR (fun k => hi_ ≤ k, .slice AO o3.length cO, o3) (by simp)) (fun _ hk => .inl hk))); (case aS => exact HQ.out.size); (case aL => have := LM.out; omega); intro v54 w14 ho hb hg hat; rw [HOE.out] at ho; replace HQ := Aside0.mk (LQ.grown HQ.out (fun k h1 h2 => by omega) (fun k h1 h2 => by omega) hb hg ho); obtain ⟨A54, c54, e54⟩ := Kd.R_slice ho; subst e54; clear hy0 hy1 hy2 hg0 hg1 hg2 hz0 hz1 hf0 hf1 BK4 hg hb hat ho; replace BK5 : Aside0 ((w14).heap[gb5]? = some (.cells #[.slice AO o3.length cO, .slice AC C.length cC, .slice AV V.length cV] 37 (0, 0))) := HQ.out.x0; obtain ⟨hy0, hy1, hy2, hg0, hg1, hg2⟩ := bc3 BK5))
    replace HQ := Aside0.mk (HQ.out.setbox (j := 0) (u := .slice A54 o4.length c54) (cs' := #[.slice A54 o4.length c54, .slice AC C.length cC, .slice AV V.length cV]) rfl)
    clear hy0 hy1 hy2 hg0 hg1 hg2 BK5
    generalize w14.setCell ⟨gb5, 0, none⟩ (.slice A54 o4.length c54) = w15 at HQ ⊢
    replace HQ := Aside0.mk HQ.out.drew
    have BK5 : Aside0 ((w15.drew).heap[gb5]? = some (.cells #[.slice A54 o4.length c54, .slice AC C.length cC, .slice AV V.length cV] 37 (0, 0))) := HQ.out.x0
    have BK4 : Aside0 ((w15.drew).heap[gb4]? = some (.cells #[.int .i64 n, .slice AN l.length cN] 35 (0, 0))) := HQ.out.x1
    have BK2 : Aside0 (w15.drew.heap[gb2]? = some (.cells #[.int .i64 0, .slice none 0 0] 35 (0, 0))) := HQ.out.x3
    refine start_ (n := 4) (S := fun w' => w'.cell? ⟨gb4, 0, none⟩ = some (.int .i64 n) ∧ w'.cell? ⟨gb4, 1, none⟩ = some (.slice AN l.length cN) ∧ w'.cell? ⟨gb5, 0, none⟩ = some (.slice A54 o4.length c54) ∧ w'.cell? ⟨gb5, 1, none⟩ = some (.slice AC C.length cC) ∧ w'.cell? ⟨gb5, 2, none⟩ = some (.slice AV V.length cV)) (ds := [3]) (zt 4 0) (by kernel_rfl) rfl (by kernel_rfl) ⟨(b2_ BK4).1, (b2_ BK4).2, (bc3 BK5).1, (bc3 BK5).2.1, (bc3 BK5).2.2.1⟩ (fun hHeld => ?_)
    refine with_tabW lr12_tab lr12_bits (fun HT_ HW_ => ?_)
    generalize w15.drew = w16 at HQ BK5 BK4 BK2 hHeld ⊢
    refine qt HT_ HW_ hHeld 0 ?_; refine qt HT_ HW_ hHeld 1 ?_
    obtain ⟨hz0, hz1, hf0, hf1⟩ := bc2 BK2
    refine qo HT_ 2 (fun K hK => ?_); refine skip_ (w1 := ?_) (by rfl) rfl ?_ ?_; rotate_left
    · go_simp; rfl
    replace HQ := Aside0.mk ((HQ.out.rot.setbox (j := 0) (u := .int .i64 n) (cs' := #[.int .i64 n, .slice none 0 0]) rfl).setbox (j := 1) (u := .slice AN l.length cN) (cs' := #[.int .i64 n, .slice AN l.length cN]) rfl)
    clear BK5 BK4 BK2 hz0 hz1 hf0 hf1 hHeld
    generalize (w16.setCell ⟨gb2, 0, none⟩ (.int .i64 n)).setCell ⟨gb2, 1, none⟩ (.slice AN l.length cN) = w17 at HQ hK ⊢
    have BK5 : Aside0 (w17.heap[gb5]? = some (.cells #[.slice A54 o4.length c54, .slice AC C.length cC, .slice AV V.length cV] 37 (0, 0))) := HQ.out.x2
    have BK4 : Aside0 (w17.heap[gb4]? = some (.cells #[.int .i64 n, .slice AN l.length cN] 35 (0, 0))) := HQ.out.x3
    have BK3 : Aside0 (w17.heap[gb3]? = some (.cells #[.slice none 0 0, .slice none 0 0, .slice none 0 0] 37 (0, 0))) := HQ.out.x1
    refine hK.out _ _ ⟨(b2_ BK4).1, (b2_ BK4).2, (bc3 BK5).1, (bc3 BK5).2.1, (bc3 BK5).2.2.1⟩ (fun hHeld => ?_); clear hK K
    obtain ⟨hz0, hz1, hz2, hf0, hf1, hf2⟩ := bc3 BK3
    refine last_ (i := 3) (N := none) (zt 4 15) rfl rfl (one_of HT_.out (by kernel_rfl)) (by decide) (fun K hK => ?_); refine skip_ (w1 := ?_) (by rfl) rfl ?_ ?_; rotate_left
    · go_simp; rfl
    refine hK.out _ _ ?_; clear hK K; refine done_ (done_of HT_.out (by kernel_rfl)) ?_
    clear HT_ HW_ hHeld BK5 BK4 BK3 hz0 hz1 hz2 hf0 hf1 hf2
    replace HQ := Aside0.mk (((HQ.out.swapB.setbox (j := 0) (u := .slice A54 o4.length c54) (cs' := #[.slice A54 o4.length c54, .slice none 0 0, .slice none 0 0]) rfl).setbox (j := 1) (u := .slice AC C.length cC) (cs' := #[.slice A54 o4.length c54, .slice AC C.length cC, .slice none 0 0]) rfl).setbox (j := 2) (u := .slice AV V.length cV) (cs' := #[.slice A54 o4.length c54, .slice AC C.length cC, .slice AV V.length cV]) rfl)
    generalize ((w17.setCell ⟨gb3, 0, none⟩ (.slice A54 o4.length c54)).setCell ⟨gb3, 1, none⟩ (.slice AC C.length cC)).setCell ⟨gb3, 2, none⟩ (.slice AV V.length cV) = w18 at HQ ⊢
    try go_wp2
    refine bodyPost_ret (results_cc rfl _ _ gb2 gb3 35 37 #[.int .i64 n, .slice AN l.length cN] #[.slice A54 o4.length c54, .slice AC C.length cC, .slice AV V.length cV] (0, 0) (0, 0) _ _ rfl HQ.out.x1.out Try.underlying35 rfl (by kernel_rfl) rfl HQ.out.x0.out Try.underlying37 rfl (by kernel_rfl)) rfl ?_
    exact ⟨_, _, _, _, rfl, HQ.out.ends (fun k hk hk2 => by omega) (fun k hk hk2 => by omega) (fun k hk hk2 => by omega)⟩
  obtain ⟨c2b0, c2b1⟩ := dQ c2
  rw [if_neg c2] at a7
  clear c2 A7
  simp only [Option.some.injEq, Prod.mk.injEq] at a7
  obtain ⟨rfl, rfl, rfl, rfl⟩ := a7
  go_upto_region 12 with (first | ((with_reducible refine gate_callee (f := 78) rfl ?_); refine goesL_ (some 19) rfl rfl Try.func78 (by kernel_rfl) rfl #[.pointer (some ⟨g, 0, none⟩), .int .i64 n] rfl ul ?_; (with_reducible refine (spec_l30Rd_pick.calls k g s0_0 p2 n a p3 w0 _ ?side1 ?side2 A4.out).mono ?_); (case side1 => exact HQ.out.hI); (case side2 => first | exact HQ.out.hB | exact (HQ.out.drewN _).hB | exact HQ.out.drew.hB); rintro e w10 ⟨rfl, hi, hb, hk⟩; refine ⟨_, rfl, ?_⟩; (first | (replace HQ := Aside0.mk (HQ.out.call hi hb hk)) | (replace HQ := Aside0.mk ((HQ.out.drewN _).call hi hb hk)) | (replace HQ := Aside0.mk (HQ.out.drew.call hi hb hk))); clear hi hb hk; clear hz0 hz1 hf0 hf1; replace BK4 : Aside0 ((w10).heap[gb4]? = some (.cells #[.int .i64 n, .slice AN l.length cN] 35 (0, 0))) := HQ.out.x1; obtain ⟨hz0, hz1, hf0, hf1⟩ := bc2 BK4) | ((with_reducible refine gate_callee (f := 78) rfl ?_); refine goesL_ (some 23) rfl rfl Try.func78 (by kernel_rfl) rfl #[.pointer (some ⟨g, 0, none⟩), .int .i64 n] rfl ul ?_; (with_reducible refine (spec_l30Rd_pick.calls k g s0_0 p3 n b p4 w0 _ ?side1 ?side2 A5.out).mono ?_); (case side1 => exact HQ.out.hI); (case side2 => first | exact HQ.out.hB | exact (HQ.out.drewN _).hB | exact HQ.out.drew.hB); rintro e w11 ⟨rfl, hi, hb, hk⟩; refine ⟨_, rfl, ?_⟩; (first | (replace HQ := Aside0.mk (HQ.out.call hi hb hk)) | (replace HQ := Aside0.mk ((HQ.out.drewN _).call hi hb hk)) | (replace HQ := Aside0.mk (HQ.out.drew.call hi hb hk))); clear hi hb hk; clear hz0 hz1 hf0 hf1; replace BK4 : Aside0 ((w11).heap[gb4]? = some (.cells #[.int .i64 n, .slice AN l.length cN] 35 (0, 0))) := HQ.out.x1; obtain ⟨hz0, hz1, hf0, hf1⟩ := bc2 BK4) | ((with_reducible refine gate_callee (f := 78) rfl ?_); refine goesL_ (some 25) rfl rfl Try.func78 (by kernel_rfl) rfl #[.pointer (some ⟨g, 0, none⟩), .int .i64 16] rfl ul ?_; (with_reducible refine (spec_l30Rd_pick.calls k g s0_0 p4 16 c p5 w0 _ ?side1 ?side2 A6.out).mono ?_); (case side1 => exact HQ.out.hI); (case side2 => first | exact HQ.out.hB | exact (HQ.out.drewN _).hB | exact HQ.out.drew.hB); rintro e w12 ⟨rfl, hi, hb, hk⟩; refine ⟨_, rfl, ?_⟩; (first | (replace HQ := Aside0.mk (HQ.out.call hi hb hk)) | (replace HQ := Aside0.mk ((HQ.out.drewN _).call hi hb hk)) | (replace HQ := Aside0.mk (HQ.out.drew.call hi hb hk))); clear hi hb hk; clear hz0 hz1 hf0 hf1; replace BK4 : Aside0 ((w12).heap[gb4]? = some (.cells #[.int .i64 n, .slice AN l.length cN] 35 (0, 0))) := HQ.out.x1; obtain ⟨hz0, hz1, hf0, hf1⟩ := bc2 BK4))
  clear hz0 hz1 hf0 hf1 BK4 BK5
  generalize w12 = w15 at HQ ⊢
  replace HQ := Aside0.mk HQ.out.drew
  have BK5 : Aside0 ((w15.drew).heap[gb5]? = some (.cells #[.slice AO o3.length cO, .slice AC C.length cC, .slice AV V.length cV] 37 (0, 0))) := HQ.out.x0
  have BK4 : Aside0 ((w15.drew).heap[gb4]? = some (.cells #[.int .i64 n, .slice AN l.length cN] 35 (0, 0))) := HQ.out.x1
  have BK2 : Aside0 (w15.drew.heap[gb2]? = some (.cells #[.int .i64 0, .slice none 0 0] 35 (0, 0))) := HQ.out.x3
  refine start_ (n := 4) (S := fun w' => w'.cell? ⟨gb4, 0, none⟩ = some (.int .i64 n) ∧ w'.cell? ⟨gb4, 1, none⟩ = some (.slice AN l.length cN) ∧ w'.cell? ⟨gb5, 0, none⟩ = some (.slice AO o3.length cO) ∧ w'.cell? ⟨gb5, 1, none⟩ = some (.slice AC C.length cC) ∧ w'.cell? ⟨gb5, 2, none⟩ = some (.slice AV V.length cV)) (ds := [3]) (zt 4 0) (by kernel_rfl) rfl (by kernel_rfl) ⟨(b2_ BK4).1, (b2_ BK4).2, (bc3 BK5).1, (bc3 BK5).2.1, (bc3 BK5).2.2.1⟩ (fun hHeld => ?_)
  refine with_tabW lr12_tab lr12_bits (fun HT_ HW_ => ?_)
  generalize w15.drew = w16 at HQ BK5 BK4 BK2 hHeld ⊢
  refine qt HT_ HW_ hHeld 0 ?_; refine qt HT_ HW_ hHeld 1 ?_
  obtain ⟨hz0, hz1, hf0, hf1⟩ := bc2 BK2
  refine qo HT_ 2 (fun K hK => ?_); refine skip_ (w1 := ?_) (by rfl) rfl ?_ ?_; rotate_left
  · go_simp; rfl
  replace HQ := Aside0.mk ((HQ.out.rot.setbox (j := 0) (u := .int .i64 n) (cs' := #[.int .i64 n, .slice none 0 0]) rfl).setbox (j := 1) (u := .slice AN l.length cN) (cs' := #[.int .i64 n, .slice AN l.length cN]) rfl)
  clear BK5 BK4 BK2 hz0 hz1 hf0 hf1 hHeld
  generalize (w16.setCell ⟨gb2, 0, none⟩ (.int .i64 n)).setCell ⟨gb2, 1, none⟩ (.slice AN l.length cN) = w17 at HQ hK ⊢
  have BK5 : Aside0 (w17.heap[gb5]? = some (.cells #[.slice AO o3.length cO, .slice AC C.length cC, .slice AV V.length cV] 37 (0, 0))) := HQ.out.x2
  have BK4 : Aside0 (w17.heap[gb4]? = some (.cells #[.int .i64 n, .slice AN l.length cN] 35 (0, 0))) := HQ.out.x3
  have BK3 : Aside0 (w17.heap[gb3]? = some (.cells #[.slice none 0 0, .slice none 0 0, .slice none 0 0] 37 (0, 0))) := HQ.out.x1
  refine hK.out _ _ ⟨(b2_ BK4).1, (b2_ BK4).2, (bc3 BK5).1, (bc3 BK5).2.1, (bc3 BK5).2.2.1⟩ (fun hHeld => ?_); clear hK K
  obtain ⟨hz0, hz1, hz2, hf0, hf1, hf2⟩ := bc3 BK3
  refine last_ (i := 3) (N := none) (zt 4 15) rfl rfl (one_of HT_.out (by kernel_rfl)) (by decide) (fun K hK => ?_); refine skip_ (w1 := ?_) (by rfl) rfl ?_ ?_; rotate_left
  · go_simp; rfl
  refine hK.out _ _ ?_; clear hK K; refine done_ (done_of HT_.out (by kernel_rfl)) ?_
  clear HT_ HW_ hHeld BK5 BK4 BK3 hz0 hz1 hz2 hf0 hf1 hf2
  replace HQ := Aside0.mk (((HQ.out.swapB.setbox (j := 0) (u := .slice AO o3.length cO) (cs' := #[.slice AO o3.length cO, .slice none 0 0, .slice none 0 0]) rfl).setbox (j := 1) (u := .slice AC C.length cC) (cs' := #[.slice AO o3.length cO, .slice AC C.length cC, .slice none 0 0]) rfl).setbox (j := 2) (u := .slice AV V.length cV) (cs' := #[.slice AO o3.length cO, .slice AC C.length cC, .slice AV V.length cV]) rfl)
  generalize ((w17.setCell ⟨gb3, 0, none⟩ (.slice AO o3.length cO)).setCell ⟨gb3, 1, none⟩ (.slice AC C.length cC)).setCell ⟨gb3, 2, none⟩ (.slice AV V.length cV) = w18 at HQ ⊢
  try go_wp2
  refine bodyPost_ret (results_cc rfl _ _ gb2 gb3 35 37 #[.int .i64 n, .slice AN l.length cN] #[.slice AO o3.length cO, .slice AC C.length cC, .slice AV V.length cV] (0, 0) (0, 0) _ _ rfl HQ.out.x1.out Try.underlying35 rfl (by kernel_rfl) rfl HQ.out.x0.out Try.underlying37 rfl (by kernel_rfl)) rfl ?_
  exact ⟨_, _, _, _, rfl, HQ.out.ends (fun k hk hk2 => by omega) (fun k hk hk2 => by omega) (fun k hk hk2 => by omega)⟩
end Go.Proofs.Ytdlaaccnaokdnaa.P
