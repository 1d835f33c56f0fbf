/- Contracts: slices.Grow of nothing, slices.Concat of two slices of numbers; (Rank).unpack, by hand. -/
import Derived.Test.YtdlaaccnaokdnaaHUp
import Derived.Test.YtdlaaccnaokdnaaHNet
import Derived.Lib.AppendZeros
set_option linter.unusedVariables false
set_option linter.unusedSimpArgs false
namespace Go.Proofs.Ytdlaaccnaokdnaa.P
open Go.RowKit Go.Proofs.YtdlaaccnaokdnaaV.PrintWords Go.Proofs.YtdlaaccnaokdnaaV.PrintLast Go.Proofs.YtdlaaccnaokdnaaV.PrintMore
theorem R_own0 {w : World} {base : Nat} (v : Value) (ok : Nat → Prop) (h : w.ownsWeak base 3 1 v 0 []) (hok : ∀ k, v.ownBlock = some k → ok k := by exact fun _ _ => trivial) : Kd.R (Kd.int .i64) 3 w base ok v [] := ⟨hok, [], h, Reps.none _ _⟩
set_option maxHeartbeats 2000000 in
set_option maxRecDepth 100000 in
theorem grow_nil (n : Nat) (h1 : 1 ≤ n) (h2 : n ≤ 1048576) (w : World) :
    Calls Try.prog 126 #[.slice none 0 0, .int .i64 (n : Int)] w fun e w' => ∃ v, e = .returned v ∧ Kd.R (Kd.int .i64) 3 w' w.heap.size (fun _ => True) v [] ∧ Below w.heap.size w w' := by
  have hu25 := Try.underlying25
  have hz : ∀ ty, (Builtin.append_ #[25, 3] ty #[.slice none 0 0, .int .i64 (n : Int)]).run Try.prog w = .ok (.slice (some ⟨w.heap.size, 0, none⟩) n (grownCap w n 0 3)) (w.drew.alloc (.cells (Builtin.zeroCells (Value.int .i64 0).cells n ++ Builtin.zeroCells (Value.int .i64 0).cells (grownCap w n 0 3 - n)) 3)) := fun ty => by
    obtain ⟨i0, hi, hzz⟩ := Option.map_eq_some_iff.1 info3
    simp only [Prod.mk.injEq] at hzz
    exact Lib.run_append_nil_zeros w 25 3 ty 3 i0 (.int .i64 0) .i64 .i64 Try.underlying25 Try.underlying3 hi hzz.1 n (by omega) (by omega) (by omega) (by rw [hzz.2.2]; omega)
  have hGn : n ≤ grownCap w n 0 3 := grownCap_ge w _ _ _
  obtain ⟨G, hG⟩ : ∃ G, G = grownCap w n 0 3 := ⟨_, rfl⟩
  have hG63 : G ≤ 9223372036854775807 := by
    have := grownCap_le_maxLen w n 0 3 (by unfold maxLen; omega)
    rw [← hG] at this
    unfold maxLen at this
    omega
  rw [← hG] at hz hGn
  clear hG
  have c1 : ¬ ((n : Int) < 0) := by omega
  have c2 : (n : Int) > 0 := by omega
  have c3 : wrap64 ((n : Int) - 0) = (n : Int) := by unfold wrap64; omega
  go_enter Try.func126, Try.ntmps126
  go_wp2_with (at_builtin; refine Lib.wpList_append_run _ rfl _ _ _ _ rfl _ _ rfl rfl _ _ (hz _) ?_)
  go_ret
  refine ⟨_, rfl, Kd.R_drew (R_own0 _ _ ?_), below_drew1 (below_alloc (Below.refl _ _) _)⟩
  have := World.ownsWeak_room (e := 3) (size := 1) (base := w.heap.size) w (Builtin.zeroCells #[Value.int IntKind.i64 0] n ++ Builtin.zeroCells #[Value.int IntKind.i64 0] (G - n)) 0 G (Nat.le_refl _) (Nat.zero_le _) hG63 (by simp [Builtin.zeroCells]; omega)
  exact this
set_option maxHeartbeats 2000000 in
set_option maxRecDepth 100000 in
theorem concat2 (x y : List Int) (g : Nat) (A1 : Option Addr) (c1 : Nat) (A2 : Option Addr) (c2 : Nat) (w : World) (hb : w.heap[g]? = some (.cells #[.slice A1 x.length c1, .slice A2 y.length c2] 25 (0, 0))) (hx : Kd.C (Kd.int .i64) w A1 x.length x) (hy : Kd.C (Kd.int .i64) w A2 y.length y) (h1 : 1 ≤ x.length + y.length) (h2 : x.length + y.length ≤ 1048576) :
    Calls Try.prog 99 #[.slice (some ⟨g, 0, none⟩) 2 2] w fun e w' => ∃ v, e = .returned v ∧ Kd.R (Kd.int .i64) 3 w' w.heap.size (fun _ => True) v (x ++ y) ∧ Below w.heap.size w w' := by
  have HX := Aside0.mk hx
  have HY := Aside0.mk hy
  have HG := Aside0.mk hb
  clear hx hy hb
  have hs1 : wrap64 (0 + (x.length : Int)) = (x.length : Int) := by unfold wrap64; omega
  have hs2 : wrap64 ((x.length : Int) + (y.length : Int)) = ((x.length + y.length : Nat) : Int) := by unfold wrap64; omega
  have hn1 : ¬ ((x.length : Int) < 0) := by omega
  have hn2 : ¬ (((x.length + y.length : Nat) : Int) < 0) := by omega
  obtain ⟨hz0, hz1, hf0, hf1⟩ := bc2 HG
  go_enter Try.func99, Try.ntmps99
  go_wp2
  go_loopg [3, 5, 11] 2 (fun gg s3 s5 s11 wr => w = wr ∧ ((s11 = .int .i64 0 ∧ s3 = .int .i64 0 ∧ gg = 2) ∨ (s11 = .int .i64 1 ∧ s3 = .int .i64 (x.length : Int) ∧ gg = 1) ∨ (s11 = .int .i64 2 ∧ s3 = .int .i64 ((x.length + y.length : Nat) : Int))))
  case atStart => exact ⟨rfl, .inl ⟨rfl, rfl, rfl⟩⟩
  case round =>
    obtain ⟨rfl, ⟨rfl, rfl, rfl⟩ | ⟨rfl, rfl, rfl⟩ | ⟨rfl, rfl⟩⟩ := hrel
    · go_wp2
      go_roundg 1
      case measure => omega
      case rel => exact ⟨rfl, .inr (.inl ⟨rfl, by first | rfl | (congr 1), rfl⟩)⟩
    · go_wp2
      go_roundg 0
      case measure => omega
      case rel => exact ⟨rfl, .inr (.inr ⟨rfl, by first | rfl | (congr 1)⟩)⟩
    · have HGR := Aside0.mk (grow_nil (x.length + y.length) h1 h2)
      have HG0 := HG
      clear hz0 hz1 hf0 hf1
      go_wp2_with (go_at_call 126; refine (HGR.out _).mono ?_; rintro e w1 ⟨v1, rfl, ho, hb⟩; have HR := Aside0.mk ho; have HB := Aside0.mk hb; replace HG := Aside0.mk (blk_below HG.out hb); clear ho hb)
      obtain ⟨hz0, hz1, hf0, hf1⟩ := bc2 HG
      clear HGR
      go_loopg [6, 8, 27] 2 (fun gg s6 s8 s27 w2 => Aside0 (Below w.heap.size w w2) ∧ ((s27 = .int .i64 0 ∧ gg = 2 ∧ Aside0 (Kd.R (Kd.int .i64) 3 w2 w.heap.size (fun _ => True) s6 [])) ∨ (s27 = .int .i64 1 ∧ gg = 1 ∧ Aside0 (Kd.R (Kd.int .i64) 3 w2 w.heap.size (fun _ => True) s6 x)) ∨ (s27 = .int .i64 2 ∧ Aside0 (Kd.R (Kd.int .i64) 3 w2 w.heap.size (fun _ => True) s6 (x ++ y)))))
      case atStart => exact ⟨HB, .inl ⟨rfl, rfl, HR⟩⟩
      case round =>
        clear HR HB hz0 hz1 hf0 hf1 HG
        obtain ⟨HB, ⟨rfl, rfl, HR⟩ | ⟨rfl, rfl, HR⟩ | ⟨rfl, HR⟩⟩ := hrel
        · have HG := Aside0.mk (blk_below HG0.out HB.out)
          obtain ⟨hz0, hz1, hf0, hf1⟩ := bc2 HG
          go_wp2_with ((with_reducible refine gate_dst (N := 33) rfl ?_); refine Kd.R_append_rows (Kd.int .i64) (w0 := w) w.heap.size rfl (.tmp 31) (.tmp 32) 25 3 (.int .i64 0) 8 rfl Try.underlying25 info3 rfl (by decide) (by omega) _ [] x _ _ _ (fun _ => True) (fun k => False) rfl rfl HR.out (Kd.C_below HX.out HB.out) (fun _ _ h => h) (fun _ h => h.elim) (fun _ _ => trivial) HB.out (below_size HB.out) ?aL ?_; (case aL => (try simp only [List.length_nil]); omega); intro v2 w3 ho hb hg hat; replace HR := Aside0.mk ho; replace HB := Aside0.mk hb; clear ho hb hg hat)
          go_roundg 1
          case measure => omega
          case rel => exact ⟨HB, .inr (.inl ⟨rfl, rfl, HR⟩)⟩
        · have HG := Aside0.mk (blk_below HG0.out HB.out)
          obtain ⟨hz0, hz1, hf0, hf1⟩ := bc2 HG
          go_wp2_with ((with_reducible refine gate_dst (N := 33) rfl ?_); refine Kd.R_append_rows (Kd.int .i64) (w0 := w) w.heap.size rfl (.tmp 31) (.tmp 32) 25 3 (.int .i64 0) 8 rfl Try.underlying25 info3 rfl (by decide) (by omega) _ x y _ _ _ (fun _ => True) (fun k => False) rfl rfl HR.out (Kd.C_below HY.out HB.out) (fun _ _ h => h) (fun _ h => h.elim) (fun _ _ => trivial) HB.out (below_size HB.out) ?aL ?_; (case aL => (try simp only [List.length_nil]); omega); intro v2 w3 ho hb hg hat; replace HR := Aside0.mk ho; replace HB := Aside0.mk hb; clear ho hb hg hat)
          go_roundg 0
          case measure => omega
          case rel => exact ⟨HB, .inr (.inr ⟨rfl, HR⟩)⟩
        · go_wp2
          go_ret
          exact ⟨_, rfl, HR.out, HB.out⟩
/- the literal of unpack -/
def cl1_T : Bool × List (List Nat × List Nat) := (true, [([], []), ([0], [0]), ([], []), ([1, 2], [1, 2]), ([3], [3]), ([4], [4]), ([5, 4], [4, 5]), ([4], [4]), ([6, 7, 4], [4, 6, 7]), ([4, 8], [4, 8]), ([9, 4], [9]), ([10], [10]), ([11, 10], [10, 11]), ([10], [10]), ([13, 10], [10, 13]), ([10], [10]), ([14, 15, 10], [10, 14, 15]), ([16, 10], [10, 16]), ([10], [10]), ([17, 18, 10], [10, 17, 18]), ([19, 10], [10, 19]), ([12, 20, 10], [10, 12, 20]), ([10, 21], [10, 21]), ([22, 10, 0, 1, 2, 3, 4, 5, 6, 7, 8, 9, 10, 11, 12, 13, 14, 15, 16, 17, 18, 19, 20, 21, 22], [22])])
def cl1_B : List Nat := [0, 1, 0, 7, 15, 31, 63, 31, 255, 511, 1023, 2047, 4095, 2047, 10239, 2047, 59391, 124927, 2047, 518143, 1042431, 2097151, 4194303, 8388607]
theorem cl1_tab : rtab .any (opsOf Try.f101 1) = cl1_T := by kernel_rfl
theorem cl1_bits : waitsOk cl1_T.2 cl1_B = true := by kernel_rfl
def un3_T : Bool × List (List Nat × List Nat) := (true, [([], []), ([], []), ([], []), ([], []), ([0, 1, 2, 3], [0, 1, 2, 3]), ([], []), ([], []), ([], []), ([], []), ([5, 6, 7, 8, 4], [5, 6, 7, 8]), ([4, 9], [4, 9]), ([10, 9], [10]), ([11, 11, 0, 1, 2, 3, 4, 5, 6, 7, 8, 9, 10, 11], [11])])
def un3_B : List Nat := [0, 0, 0, 0, 15, 0, 0, 0, 0, 511, 1023, 2047, 4095]
theorem un3_tab : rtab .any (opsOf Try.f64 3) = un3_T := by kernel_rfl
theorem un3_bits : waitsOk un3_T.2 un3_B = true := by kernel_rfl
def un1_T : Bool × List (List Nat × List Nat) := (true, [([], []), ([0], [0]), ([], []), ([1, 2], [1, 2]), ([3], [3]), ([], []), ([4, 5], [4, 5]), ([6], [6]), ([7, 0, 1, 2, 3, 4, 5, 6, 7], [7])])
def un1_B : List Nat := [0, 1, 0, 7, 15, 0, 63, 127, 255]
theorem un1_tab : rtab .any (opsOf Try.f64 1) = un1_T := by kernel_rfl
theorem un1_bits : waitsOk un1_T.2 un1_B = true := by kernel_rfl
/-- is an arc the one that is looked for -/
def arcQ (a b c : Int) (x : S61) : Bool := x.f0 == a && (x.f1 == b && x.f2 == c)
set_option maxHeartbeats 4000000 in
set_option maxRecDepth 100000 in
theorem unLit (x : S61) (a b : Int) (ga gb gr : Nat) (v0 v2 : Value) (A1 : Option Addr) (c1 : Nat) (L : List (List Int)) (W : World) (ha : W.heap[ga]? = some (.cells #[.int .i64 a] 3 (0, 0))) (hb : W.heap[gb]? = some (.cells #[.int .i64 b] 3 (0, 0))) (hr : W.heap[gr]? = some (.cells #[v0, .slice A1 L.length c1, v2] 37 (0, 0))) (hC : Kd.C (Kd.slice 3 (Kd.int .i64)) W A1 L.length L) (a0 : 0 ≤ a) (a1 : a < L.length) (b0 : 0 ≤ b) (b1 : b < (rd_L5 L a).length) :
    Calls Try.prog 101 #[.agg #[.int .i64 x.f0, .int .i64 x.f1, .int .i64 x.f2, .int .i64 x.f3, .int .i64 x.f4], .pointer (some ⟨ga, 0, none⟩), .pointer (some ⟨gb, 0, none⟩), .pointer (some ⟨gr, 0, none⟩)] W fun e w' => e = .returned (.bool (arcQ a b (rd (rd_L5 L a) b) x)) ∧ Below W.heap.size W w' := by
  obtain ⟨x0, x1, x2, x3, x4⟩ := x
  have hu61 := Try.underlying61
  have hu37 := Try.underlying37
  obtain ⟨ad, A, c, ea, hx, hl, hi⟩ := at_L5 hC a a0 a1
  subst ea
  obtain ⟨ad2, ea2, hx2⟩ := Kd.at_int hi b b0 b1
  subst ea2
  have BA := Aside0.mk ha; have BB := Aside0.mk hb; have BR := Aside0.mk hr
  have HB := Aside0.mk (Below.refl W.heap.size W)
  have p0 := eq_true a0; have p1 := eq_true a1; have p2 := eq_true b0; have p3 := eq_true b1
  have HX := Aside0.mk hx; have HX2 := Aside0.mk hx2
  clear hi hl hC ha hb hr hx hx2 a0 a1 b0 b1
  unfold arcQ
  dsimp only
  obtain ⟨cc, hcc⟩ : ∃ cc, cc = rd (rd_L5 L a) b := ⟨_, rfl⟩
  rw [← hcc] at HX2 ⊢
  clear hcc
  go_enter Try.func101, Try.ntmps101
  go_upto_region 1 with ((with_reducible refine gate_dst (N := 4) rfl ?_); refine be (cs := #[.int .i64 x0, .int .i64 x1, .int .i64 x2, .int .i64 x3, .int .i64 x4]) (t := 61) ?_; intro g4 hg w1 hbox hb; have BX := Aside0.mk hbox; replace BA := bb BA hb; replace BB := bb BB hb; replace BR := bb BR hb; have hx := uc ⟨hb⟩ HX.out; have hx2 := uc ⟨hb⟩ HX2.out; replace HB := Aside0.mk (below_step (uB0 HB) hb); clear hb hbox hg)
  replace BX := Aside0.mk (blk_drew BX.out); replace BA := Aside0.mk (blk_drew BA.out); replace BB := Aside0.mk (blk_drew BB.out); replace BR := Aside0.mk (blk_drew BR.out); replace HB := Aside0.mk (below_drew1 HB.out)
  refine start_ (n := 24) (S := fun w' => w'.cell? ⟨g4, 0, none⟩ = some (.int .i64 x0) ∧ w'.cell? ⟨g4, 1, none⟩ = some (.int .i64 x1) ∧ w'.cell? ⟨g4, 2, none⟩ = some (.int .i64 x2) ∧ w'.cell? ⟨ga, 0, none⟩ = some (.int .i64 a) ∧ w'.cell? ⟨gb, 0, none⟩ = some (.int .i64 b) ∧ w'.cell? ⟨gr, 1, none⟩ = some (.slice (some ad) L.length c1) ∧ w'.cell? (ad.add a.toNat) = some (.slice (some ad2) (rd_L5 L a).length c) ∧ w'.cell? (ad2.add b.toNat) = some (.int .i64 cc)) (ds := []) (zt 24 0) (by kernel_rfl) rfl (by kernel_rfl) ⟨(blk_cell BX.out 0).trans rfl, (blk_cell BX.out 1).trans rfl, (blk_cell BX.out 2).trans rfl, (blk_cell BA.out 0).trans rfl, (blk_cell BB.out 0).trans rfl, (blk_cell BR.out 1).trans rfl, hx, hx2⟩ (fun hHeld => ?_)
  refine with_tabW cl1_tab cl1_bits (fun HT_ HW_ => ?_)
  generalize w1.drew = w2 at BX BA BB BR HB hHeld ⊢
  by_cases e0 : x0 = a
  rotate_left
  · obtain ⟨e0a, e0b⟩ := dQ e0
    clear e0
    refine qz HT_ 0 ?_; refine qt HT_ HW_ hHeld 1 ?_; refine qt HT_ HW_ hHeld 2 ?_; refine qz HT_ 3 ?_; refine qz HT_ 4 ?_; refine qn HT_ 5 ?_; refine qn HT_ 6 ?_; refine qn HT_ 7 ?_; refine qn HT_ 8 ?_; refine qz HT_ 9 ?_; refine qz HT_ 10 ?_; refine qn HT_ 11 ?_; refine qn HT_ 12 ?_; refine qn HT_ 13 ?_; refine qn HT_ 14 ?_; refine qn HT_ 15 ?_; refine qn HT_ 16 ?_; refine qn HT_ 17 ?_; refine qn HT_ 18 ?_; refine qn HT_ 19 ?_; refine qn HT_ 20 ?_; refine qn HT_ 21 ?_; refine qz HT_ 22 ?_; refine qz HT_ 23 ?_
    refine done_ (done_of HT_.out (by kernel_rfl)) ?_
    clear HT_ HW_ hHeld
    try go_wp2
    go_ret
    exact ⟨by simp [*], HB.out⟩
  obtain ⟨e0a, e0b⟩ := dq e0
  clear e0
  by_cases e1 : x1 = b
  rotate_left
  · obtain ⟨e1a, e1b⟩ := dQ e1
    clear e1
    refine qz HT_ 0 ?_; refine qt HT_ HW_ hHeld 1 ?_; refine qt HT_ HW_ hHeld 2 ?_; refine qz HT_ 3 ?_; refine qz HT_ 4 ?_; refine qz HT_ 5 ?_; refine qt HT_ HW_ hHeld 6 ?_; refine qt HT_ HW_ hHeld 7 ?_; refine qz HT_ 8 ?_; refine qz HT_ 9 ?_; refine qz HT_ 10 ?_; refine qn HT_ 11 ?_; refine qn HT_ 12 ?_; refine qn HT_ 13 ?_; refine qn HT_ 14 ?_; refine qn HT_ 15 ?_; refine qn HT_ 16 ?_; refine qn HT_ 17 ?_; refine qn HT_ 18 ?_; refine qn HT_ 19 ?_; refine qn HT_ 20 ?_; refine qn HT_ 21 ?_; refine qz HT_ 22 ?_; refine qz HT_ 23 ?_
    refine done_ (done_of HT_.out (by kernel_rfl)) ?_
    clear HT_ HW_ hHeld
    try go_wp2
    go_ret
    exact ⟨by simp [*], HB.out⟩
  obtain ⟨e1a, e1b⟩ := dq e1
  clear e1
  by_cases e2 : x2 = cc
  rotate_left
  · obtain ⟨e2a, e2b⟩ := dQ e2
    clear e2
    refine qz HT_ 0 ?_; refine qt HT_ HW_ hHeld 1 ?_; refine qt HT_ HW_ hHeld 2 ?_; refine qz HT_ 3 ?_; refine qz HT_ 4 ?_; refine qz HT_ 5 ?_; refine qt HT_ HW_ hHeld 6 ?_; refine qt HT_ HW_ hHeld 7 ?_; refine qz HT_ 8 ?_; refine qz HT_ 9 ?_; refine qz HT_ 10 ?_; refine qz HT_ 11 ?_; refine qt HT_ HW_ hHeld 12 ?_; refine qz HT_ 13 ?_; refine qt HT_ HW_ hHeld 14 ?_; refine qt HT_ HW_ hHeld 15 ?_; refine qz HT_ 16 ?_; refine qt HT_ HW_ hHeld 17 ?_; refine qt HT_ HW_ hHeld 18 ?_; refine qz HT_ 19 ?_; refine qt HT_ HW_ hHeld 20 ?_; refine qz HT_ 21 ?_; refine qz HT_ 22 ?_; refine qz HT_ 23 ?_
    refine done_ (done_of HT_.out (by kernel_rfl)) ?_
    clear HT_ HW_ hHeld
    try go_wp2
    go_ret
    exact ⟨by simp [*], HB.out⟩
  obtain ⟨e2a, e2b⟩ := dq e2
  clear e2
  refine qz HT_ 0 ?_; refine qt HT_ HW_ hHeld 1 ?_; refine qt HT_ HW_ hHeld 2 ?_; refine qz HT_ 3 ?_; refine qz HT_ 4 ?_; refine qz HT_ 5 ?_; refine qt HT_ HW_ hHeld 6 ?_; refine qt HT_ HW_ hHeld 7 ?_; refine qz HT_ 8 ?_; refine qz HT_ 9 ?_; refine qz HT_ 10 ?_; refine qz HT_ 11 ?_; refine qt HT_ HW_ hHeld 12 ?_; refine qz HT_ 13 ?_; refine qt HT_ HW_ hHeld 14 ?_; refine qt HT_ HW_ hHeld 15 ?_; refine qz HT_ 16 ?_; refine qt HT_ HW_ hHeld 17 ?_; refine qt HT_ HW_ hHeld 18 ?_; refine qz HT_ 19 ?_; refine qt HT_ HW_ hHeld 20 ?_; refine qz HT_ 21 ?_; refine qz HT_ 22 ?_; refine qz HT_ 23 ?_
  refine done_ (done_of HT_.out (by kernel_rfl)) ?_
  clear HT_ HW_ hHeld
  try go_wp2
  go_ret
  exact ⟨by simp [*], HB.out⟩
def impl_Rank_unpack.f : Nat → List Int → List (List Int) → List (List Int) → Int → List S61 → Int → Int → Option (List Int)
  | 0, _, _, _, _, _, _, _ => none
  | k + 1, o, c, v, n, l, a, b => if 0 ≤ a ∧ a < v.length ∧ 0 ≤ b ∧ b < (rd_L5 v a).length then (if rd (rd_L5 v a) b ≥ 0 then ((impl_Rank_unpack.f k o c v n l a (rd (rd_L5 v a) b)).bind fun x => (impl_Rank_unpack.f k o c v n l (rd (rd_L5 v a) b) b).bind fun y => if 1 ≤ x.length + y.length ∧ x.length + y.length ≤ 1048576 then some (x ++ y) else none) else if a < c.length ∧ b < (rd_L5 c a).length then some [idxOf (arcQ a b (rd (rd_L5 c a) b)) l] else none) else none
set_option maxHeartbeats 8000000 in
set_option maxRecDepth 100000 in
theorem impl_Rank_unpack.calls (k : Nat) : ∀ (A0_0 : Option Addr) (c0_0 : Nat) (l0_0 : List Int) (A0_1 : Option Addr) (c0_1 : Nat) (l0_1 : List (List Int)) (A0_2 : Option Addr) (c0_2 : Nat) (l0_2 : List (List Int)) (a1_0 : Int) (A1_1 : Option Addr) (c1_1 : Nat) (l1_1 : List (S61)) (a2 a3 : Int) (r : List Int) (w : World) (hr0_0 : Kd.C (Kd.int .i64) w A0_0 l0_0.length l0_0) (hc0_0 : l0_0.length ≤ c0_0) (hr0_1 : Kd.C (Kd.slice 3 (Kd.int .i64)) w A0_1 l0_1.length l0_1) (hc0_1 : l0_1.length ≤ c0_1) (hr0_2 : Kd.C (Kd.slice 3 (Kd.int .i64)) w A0_2 l0_2.length l0_2) (hc0_2 : l0_2.length ≤ c0_2) (hr1_1 : Kd.C k61 w A1_1 l1_1.length l1_1) (hc1_1 : l1_1.length ≤ c1_1) (h : impl_Rank_unpack.f k l0_0 l0_1 l0_2 a1_0 l1_1 a2 a3 = some r),
    Calls Try.prog 64 #[.agg #[.slice A0_0 l0_0.length c0_0, .slice A0_1 l0_1.length c0_1, .slice A0_2 l0_2.length c0_2], .agg #[.int .i64 a1_0, .slice A1_1 l1_1.length c1_1], .int .i64 a2, .int .i64 a3] w fun e w' => ∃ v0_ : Value, e = .returned (v0_) ∧ Kd.R (Kd.int .i64) 3 w' w.heap.size (fun _ => True) v0_ r ∧ Below w.heap.size w w' := by
  induction k with
  | zero => intro A0_0 c0_0 l0_0 A0_1 c0_1 l0_1 A0_2 c0_2 l0_2 a1_0 A1_1 c1_1 l1_1 a2 a3 r w _ _ _ _ _ _ _ _ h; exact absurd h (by simp [impl_Rank_unpack.f])
  | succ k ih =>
  intro A0_0 c0_0 l0_0 A0_1 c0_1 l0_1 A0_2 c0_2 l0_2 a1_0 A1_1 c1_1 l1_1 a2 a3 r w hr0_0 hc0_0 hr0_1 hc0_1 hr0_2 hc0_2 hr1_1 hc1_1 h
  have IH := Aside0.mk ih
  clear ih
  have hu35 := Try.underlying35
  have hu37 := Try.underlying37
  have HR0 := Aside0.mk hr0_0; have HC0 := Aside0.mk hc0_0
  have HR1 := Aside0.mk hr0_1; have HC1 := Aside0.mk hc0_1
  have HR2 := Aside0.mk hr0_2; have HC2 := Aside0.mk hc0_2
  have HR3 := Aside0.mk hr1_1; have HC3 := Aside0.mk hc1_1
  clear hr0_0 hc0_0 hr0_1 hc0_1 hr0_2 hc0_2 hr1_1 hc1_1
  have HB := Aside0.mk (Below.refl w.heap.size w)
  simp only [impl_Rank_unpack.f] at h
  by_cases hin : 0 ≤ a2 ∧ a2 < l0_2.length ∧ 0 ≤ a3 ∧ a3 < (rd_L5 l0_2 a2).length
  rotate_left
  · rw [if_neg hin] at h; cases h
  rw [if_pos hin] at h
  obtain ⟨a0, a1, b0, b1⟩ := hin
  obtain ⟨ad, A, c, ea, hx, hl, hi⟩ := at_L5 HR2.out a2 a0 a1
  subst ea
  obtain ⟨ad2, ea2, hx2⟩ := Kd.at_int hi a3 b0 b1
  subst ea2
  have p0 := eq_true a0; have p1 := eq_true a1; have p2 := eq_true b0; have p3 := eq_true b1
  have HX := Aside0.mk hx; have HX2 := Aside0.mk hx2
  have PA := Aside0.mk a0; have PB := Aside0.mk b0
  clear hi hl hx hx2 a0 a1 b0 b1
  obtain ⟨m, hm⟩ : ∃ m, m = rd (rd_L5 l0_2 a2) a3 := ⟨_, rfl⟩
  rw [← hm] at h HX2
  have H := Aside0.mk h
  clear h hm
  go_enter Try.func64, Try.ntmps64
  go_upto_region 1 with (first | ((with_reducible refine gate_dst (N := 4) rfl ?_); refine be (cs := #[.slice A0_0 l0_0.length c0_0, .slice A0_1 l0_1.length c0_1, .slice (some ad) l0_2.length c0_2]) (t := 37) ?_; intro g4 hg w1 hbox hb; have B4 := Aside0.mk hbox; have G4 := gz w hg (uB0 HB); replace HB := Aside0.mk (below_step (uB0 HB) hb); clear hb hbox hg) | ((with_reducible refine gate_dst (N := 5) rfl ?_); refine be (cs := #[.int .i64 a1_0, .slice A1_1 l1_1.length c1_1]) (t := 35) ?_; intro g5 hg w2 hbox hb; have B5 := Aside0.mk hbox; have G5 := gz w hg (uB0 HB); replace B4 := bb B4 hb; replace HB := Aside0.mk (below_step (uB0 HB) hb); clear hb hbox hg) | ((with_reducible refine gate_dst (N := 6) rfl ?_); refine be (cs := #[.int .i64 a2]) (t := 3) ?_; intro g6 hg w3 hbox hb; have B6 := Aside0.mk hbox; replace B4 := bb B4 hb; replace B5 := bb B5 hb; replace HB := Aside0.mk (below_step (uB0 HB) hb); clear hb hbox hg) | ((with_reducible refine gate_dst (N := 7) rfl ?_); refine be (cs := #[.int .i64 a3]) (t := 3) ?_; intro g7 hg w4 hbox hb; have B7 := Aside0.mk hbox; replace B4 := bb B4 hb; replace B5 := bb B5 hb; replace B6 := bb B6 hb; replace HB := Aside0.mk (below_step (uB0 HB) hb); clear hb hbox hg))
  replace B4 := Aside0.mk (blk_drew B4.out); replace B5 := Aside0.mk (blk_drew B5.out); replace B6 := Aside0.mk (blk_drew B6.out); replace B7 := Aside0.mk (blk_drew B7.out); replace HB := Aside0.mk (below_drew1 HB.out)
  refine start_ (n := 9) (S := fun w' => w'.cell? ⟨g4, 2, none⟩ = some (.slice (some ad) l0_2.length c0_2) ∧ w'.cell? ⟨g6, 0, none⟩ = some (.int .i64 a2) ∧ w'.cell? ⟨g7, 0, none⟩ = some (.int .i64 a3) ∧ w'.cell? (ad.add a2.toNat) = some (.slice (some ad2) (rd_L5 l0_2 a2).length c) ∧ w'.cell? (ad2.add a3.toNat) = some (.int .i64 m)) (ds := []) (zt 9 0) (by kernel_rfl) rfl (by kernel_rfl) ⟨(blk_cell B4.out 2).trans rfl, (blk_cell B6.out 0).trans rfl, (blk_cell B7.out 0).trans rfl, uc HB HX.out, uc HB HX2.out⟩ (fun hHeld => ?_)
  refine with_tabW un1_tab un1_bits (fun HT_ HW_ => ?_)
  generalize w4.drew = w4 at B4 B5 B6 B7 HB hHeld ⊢
  refine qz HT_ 0 ?_; refine qt HT_ HW_ hHeld 1 ?_; refine qt HT_ HW_ hHeld 2 ?_; refine qz HT_ 3 ?_; refine qt HT_ HW_ hHeld 4 ?_; refine qt HT_ HW_ hHeld 5 ?_; refine qz HT_ 6 ?_; refine qt HT_ HW_ hHeld 7 ?_; refine qz HT_ 8 ?_
  refine done_ (done_of HT_.out (by kernel_rfl)) ?_
  clear HT_ HW_ hHeld
  have h := H.out
  clear H
  by_cases hm : m ≥ 0
  · rw [if_pos hm] at h
    have hmd := de hm
    obtain ⟨x, h1, h⟩ := Option.bind_eq_some_iff.1 h
    obtain ⟨y, h2, h⟩ := Option.bind_eq_some_iff.1 h
    by_cases hl : 1 ≤ x.length + y.length ∧ x.length + y.length ≤ 1048576
    rotate_left
    · rw [if_neg hl] at h; cases h
    rw [if_pos hl] at h
    obtain rfl := Option.some.inj h
    have A1 := Aside0.mk h1; have A2 := Aside0.mk h2; have HL := Aside0.mk hl
    clear h h1 h2 hl hm
    try go_wp2
    replace B4 := Aside0.mk (blk_drew B4.out); replace B5 := Aside0.mk (blk_drew B5.out); replace B6 := Aside0.mk (blk_drew B6.out); replace B7 := Aside0.mk (blk_drew B7.out); replace HB := Aside0.mk (below_drew1 HB.out)
    refine start_ (n := 13) (S := fun w' => w'.cell? ⟨g4, 0, none⟩ = some (.slice A0_0 l0_0.length c0_0) ∧ w'.cell? ⟨g4, 1, none⟩ = some (.slice A0_1 l0_1.length c0_1) ∧ w'.cell? ⟨g4, 2, none⟩ = some (.slice (some ad) l0_2.length c0_2) ∧ w'.cell? ⟨g5, 0, none⟩ = some (.int .i64 a1_0) ∧ w'.cell? ⟨g5, 1, none⟩ = some (.slice A1_1 l1_1.length c1_1) ∧ w'.cell? ⟨g6, 0, none⟩ = some (.int .i64 a2) ∧ w'.cell? ⟨g7, 0, none⟩ = some (.int .i64 a3)) (ds := []) (zt 13 0) (by kernel_rfl) rfl (by kernel_rfl) ⟨(blk_cell B4.out 0).trans rfl, (blk_cell B4.out 1).trans rfl, (blk_cell B4.out 2).trans rfl, (blk_cell B5.out 0).trans rfl, (blk_cell B5.out 1).trans rfl, (blk_cell B6.out 0).trans rfl, (blk_cell B7.out 0).trans rfl⟩ (fun hHeld => ?_)
    refine with_tabW un3_tab un3_bits (fun HT_ HW_ => ?_)
    generalize w4.drew = w5 at B4 B5 B6 B7 HB hHeld ⊢
    refine qz HT_ 3 ?_; refine qz HT_ 7 ?_; refine qt HT_ HW_ hHeld 0 ?_; refine qt HT_ HW_ hHeld 1 ?_; refine qt HT_ HW_ hHeld 2 ?_; refine qt HT_ HW_ hHeld 5 ?_; refine qt HT_ HW_ hHeld 6 ?_; refine qt HT_ HW_ hHeld 8 ?_
    refine qo HT_ 4 (fun K hK => ?_)
    refine goes_ Try.func64 (by kernel_rfl) rfl #[.agg #[.slice A0_0 l0_0.length c0_0, .slice A0_1 l0_1.length c0_1, .slice (some ad) l0_2.length c0_2], .agg #[.int .i64 a1_0, .slice A1_1 l1_1.length c1_1], .int .i64 a2, .int .i64 m] (by rfl) rfl rfl ul ?_
    refine (IH.out A0_0 c0_0 l0_0 A0_1 c0_1 l0_1 (some ad) c0_2 l0_2 a1_0 A1_1 c1_1 l1_1 a2 m x w5 (uC HR0 HB) HC0.out (uC HR1 HB) HC1.out (uC HR2 HB) HC2.out (uC HR3 HB) HC3.out A1.out).mono ?_
    rintro e w6 ⟨v1, rfl, ho, hb⟩
    refine ⟨_, rfl, ?_⟩
    obtain ⟨Ax, cx, ex⟩ := Kd.R_slice ho
    subst ex
    have OX := Aside0.mk (Kd.R_reads' ho).2.2
    replace B4 := bb B4 hb; replace B5 := bb B5 hb; replace B6 := bb B6 hb; replace B7 := bb B7 hb; replace HB := Aside0.mk (below_step (uB0 HB) hb)
    clear hb ho
    refine hK.out _ _ ⟨(blk_cell B4.out 0).trans rfl, (blk_cell B4.out 1).trans rfl, (blk_cell B4.out 2).trans rfl, (blk_cell B5.out 0).trans rfl, (blk_cell B5.out 1).trans rfl, (blk_cell B6.out 0).trans rfl, (blk_cell B7.out 0).trans rfl⟩ (fun hHeld => ?_)
    clear hK K
    refine nz ?_
    refine qo HT_ 9 (fun K hK => ?_)
    refine goes_ Try.func64 (by kernel_rfl) rfl #[.agg #[.slice A0_0 l0_0.length c0_0, .slice A0_1 l0_1.length c0_1, .slice (some ad) l0_2.length c0_2], .agg #[.int .i64 a1_0, .slice A1_1 l1_1.length c1_1], .int .i64 m, .int .i64 a3] (by rfl) rfl rfl ul ?_
    refine (IH.out A0_0 c0_0 l0_0 A0_1 c0_1 l0_1 (some ad) c0_2 l0_2 a1_0 A1_1 c1_1 l1_1 m a3 y w6 (uC HR0 HB) HC0.out (uC HR1 HB) HC1.out (uC HR2 HB) HC2.out (uC HR3 HB) HC3.out A2.out).mono ?_
    rintro e w7 ⟨v2, rfl, ho, hb⟩
    refine ⟨_, rfl, ?_⟩
    obtain ⟨Ay, cy, ey⟩ := Kd.R_slice ho
    subst ey
    have OY := Aside0.mk (Kd.R_reads' ho).2.2
    replace OX := Aside0.mk (Kd.C_below OX.out hb)
    replace B4 := bb B4 hb; replace B5 := bb B5 hb; replace B6 := bb B6 hb; replace B7 := bb B7 hb; replace HB := Aside0.mk (below_step (uB0 HB) hb)
    clear hb ho
    refine hK.out _ _ ⟨(blk_cell B4.out 0).trans rfl, (blk_cell B4.out 1).trans rfl, (blk_cell B4.out 2).trans rfl, (blk_cell B5.out 0).trans rfl, (blk_cell B5.out 1).trans rfl, (blk_cell B6.out 0).trans rfl, (blk_cell B7.out 0).trans rfl⟩ (fun hHeld => ?_)
    clear hK K
    refine nz ?_
    refine qo HT_ 10 (fun K hK => ?_)
    refine event_step (w1 := w7.alloc (.cells #[.slice Ax x.length cx, .slice Ay y.length cy] 25 (0, 0))) (v := .slice (some ⟨w7.heap.size, 0, none⟩) 2 2) rfl (by first | (go_simp; done) | (go_simp; rfl)) ?_
    have hb := below_alloc (Below.refl w7.heap.size w7) (.cells #[.slice Ax x.length cx, .slice Ay y.length cy] 25 (0, 0))
    have BN := Aside0.mk (blk_new w7 (.cells #[.slice Ax x.length cx, .slice Ay y.length cy] 25 (0, 0)))
    replace OX := Aside0.mk (Kd.C_below OX.out hb); replace OY := Aside0.mk (Kd.C_below OY.out hb)
    replace B4 := bb B4 hb; replace B5 := bb B5 hb; replace B6 := bb B6 hb; replace B7 := bb B7 hb; replace HB := Aside0.mk (below_step (uB0 HB) hb)
    clear hb
    generalize w7.alloc (.cells #[.slice Ax x.length cx, .slice Ay y.length cy] 25 (0, 0)) = w8 at B4 B5 B6 B7 HB BN OX OY ⊢
    generalize w7.heap.size = g8 at BN ⊢
    refine hK.out _ _ ⟨(blk_cell B4.out 0).trans rfl, (blk_cell B4.out 1).trans rfl, (blk_cell B4.out 2).trans rfl, (blk_cell B5.out 0).trans rfl, (blk_cell B5.out 1).trans rfl, (blk_cell B6.out 0).trans rfl, (blk_cell B7.out 0).trans rfl⟩ (fun hHeld => ?_)
    clear hK K
    refine nz ?_
    refine qo HT_ 11 (fun K hK => ?_)
    refine goes_ Try.func99 (by kernel_rfl) rfl #[.slice (some ⟨g8, 0, none⟩) 2 2] (by rfl) rfl rfl ul ?_
    refine (concat2 x y g8 Ax cx Ay cy w8 BN.out OX.out OY.out HL.out.1 HL.out.2).mono ?_
    rintro e w9 ⟨v3, rfl, ho, hb⟩
    refine ⟨_, rfl, ?_⟩
    have OR := Aside0.mk (Kd.R_lower ho (below_size HB.out))
    replace B4 := bb B4 hb; replace B5 := bb B5 hb; replace B6 := bb B6 hb; replace B7 := bb B7 hb; replace HB := Aside0.mk (below_step (uB0 HB) hb)
    clear hb ho
    refine hK.out _ _ ⟨(blk_cell B4.out 0).trans rfl, (blk_cell B4.out 1).trans rfl, (blk_cell B4.out 2).trans rfl, (blk_cell B5.out 0).trans rfl, (blk_cell B5.out 1).trans rfl, (blk_cell B6.out 0).trans rfl, (blk_cell B7.out 0).trans rfl⟩ (fun hHeld => ?_)
    clear hK K
    refine nz ?_
    refine qz HT_ 12 ?_
    refine done_ (done_of HT_.out (by kernel_rfl)) ?_
    clear HT_ HW_ hHeld
    try go_wp2
    go_ret
    exact ⟨_, rfl, OR.out, HB.out⟩
  · rw [if_neg hm] at h
    have hmd := DE hm
    by_cases hl : a2 < l0_1.length ∧ a3 < (rd_L5 l0_1 a2).length
    rotate_left
    · rw [if_neg hl] at h; cases h
    rw [if_pos hl] at h
    obtain rfl := Option.some.inj h
    have eg : ∀ args w, (callFunc 101 args).run Try.prog w = .ok (.enter 101 args) w := enters_of Try.func101 (by kernel_rfl) rfl
    have HX9 := Aside0.mk (indexFunc_arc (arcQ a2 a3 (rd (rd_L5 l0_1 a2) a3)) 101 #[.pointer (some ⟨g6, 0, none⟩), .pointer (some ⟨g7, 0, none⟩), .pointer (some ⟨g4, 0, none⟩)] eg A1_1 c1_1 l1_1 w4 (uC HR3 HB) (fun W x _ hb => unLit x a2 a3 g6 g7 g4 _ _ A0_1 c0_1 l0_1 W (blk_below B6.out hb) (blk_below B7.out hb) (blk_below B4.out hb) (Kd.C_below (uC HR1 HB) hb) PA.out hl.1 PB.out hl.2))
    clear h eg hl hm
    obtain ⟨hz0, hz1, hf0, hf1⟩ := bc2 B5
    go_wp2_with (first | (go_at_call 100; refine HX9.out.mono ?_; rintro e w5 ⟨rfl, hb⟩; replace HB := Aside0.mk (below_step HB.out hb); clear hb hz0 hz1 hf0 hf1) | ((with_reducible refine gate_dst (N := 36) rfl ?_); refine Kd.R_lit (Kd.int .i64) _ 3 ?hg (N := 36) ?hd (xs := ([idxOf (arcQ a2 a3 (rd (rd_L5 l0_1 a2) a3)) l1_1] : List Int)) (inner := [.int .i64 (idxOf (arcQ a2 a3 (rd (rd_L5 l0_1 a2) a3)) l1_1)]) (ok := fun _ => True) (okp := fun _ => True) ?hr ?hp (fun _ hk => hk) trivial (Below.refl _ _) (Nat.le_refl _) (by simp) ?_; (case hd => rfl); (case hg => rfl); (case hr => first | (go_simp; done) | (go_simp; rfl)); (case hp => exact (Reps.one (show Kd.M (Kd.int .i64) _ _ _ (idxOf (arcQ a2 a3 (rd (rd_L5 l0_1 a2) a3)) l1_1) [.int .i64 (idxOf (arcQ a2 a3 (rd (rd_L5 l0_1 a2) a3)) l1_1)] from rfl) (Reps.none _ _))); intro v9 w9 ho hb hg_ hnew_; clear hg_ hnew_; have OR := Aside0.mk (Kd.R_lower ho (below_size HB.out)); replace HB := Aside0.mk (below_step HB.out hb); clear hb ho))
    go_ret
    exact ⟨_, rfl, OR.out, HB.out⟩
end Go.Proofs.Ytdlaaccnaokdnaa.P
