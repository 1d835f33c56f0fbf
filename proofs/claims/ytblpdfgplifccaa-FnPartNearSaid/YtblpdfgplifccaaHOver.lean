/- Contract: (Net).overlay, by hand: two rows of rows, one stored into; they are told apart by when they were made. -/
import Derived.Test.YtblpdfgplifccaaHUp
import Derived.Test.YtblpdfgplifccaaHNet
import Derived.Test.YtblpdfgplifccaaGGrid
import Derived.Test.YtblpdfgplifccaaGFrom
import Derived.Test.YtblpdfgplifccaaHInside
import Derived.Test.YtblpdfgplifccaaHPart
set_option linter.unusedVariables false
set_option linter.unusedSimpArgs false
namespace Go.Proofs.Ytblpdfgplifccaa.P
open Go.RowKit Go.Proofs.YtblpdfgplifccaaV.PrintWords Go.Proofs.YtblpdfgplifccaaV.PrintLast Go.Proofs.YtblpdfgplifccaaV.PrintMore
def ov5_T : Bool × List (List Nat × List Nat) := (true, [([], []), ([], []), ([1], [1]), ([0, 2], [0, 2]), ([3], [3]), ([], []), ([], []), ([6], [6]), ([5, 7], [5, 7]), ([8], [8]), ([4, 9], [4, 9])])
def ov5_B : List Nat := [0, 0, 2, 7, 15, 0, 0, 64, 224, 480, 1023]
theorem ov5_tab : rtab .any (opsOf Try.f90 5) = ov5_T := by kernel_rfl
theorem ov5_bits : waitsOk ov5_T.2 ov5_B = true := by kernel_rfl
def ov6_T : Bool × List (List Nat × List Nat) := (true, [([], []), ([], []), ([1], [1]), ([0, 2], [0, 2]), ([3], [3]), ([], []), ([5], [5]), ([], []), ([], []), ([8], [8]), ([7, 9], [7, 9]), ([10], [10]), ([], []), ([12], [12]), ([11, 13], [11, 13]), ([14], [14]), ([], []), ([16], [16]), ([15, 17], [15, 17]), ([4, 6, 0, 1, 2, 3, 4, 5, 6, 7, 8, 9, 10, 11, 12, 13, 14, 15, 16, 17, 18], [4, 6]), ([19, 18, 0, 1, 2, 3, 4, 5, 6, 7, 8, 9, 10, 11, 12, 13, 14, 15, 16, 17, 18], [18, 19])])
def ov6_B : List Nat := [0, 0, 2, 7, 15, 0, 32, 0, 0, 256, 896, 1920, 0, 4096, 16256, 32640, 0, 65536, 262016, 524287, 1048575]
theorem ov6_tab : rtab .any (opsOf Try.f90 6) = ov6_T := by kernel_rfl
theorem ov6_bits : waitsOk ov6_T.2 ov6_B = true := by kernel_rfl
def ov15_T : Bool × List (List Nat × List Nat) := (true, [([], []), ([], []), ([0, 1], [0, 1]), ([2], [2]), ([3], [3]), ([3], [3]), ([4, 5, 3], [3, 4, 5]), ([6, 3], [3, 6]), ([3], [3]), ([3], [3]), ([8, 9, 3], [3, 8, 9]), ([10, 3], [3, 10]), ([7, 11, 3], [3, 7, 11]), ([3, 12], [3, 12])])
def ov15_B : List Nat := [0, 0, 3, 7, 15, 15, 63, 127, 15, 15, 783, 1807, 4095, 8191]
theorem ov15_tab : rtab .any (opsOf Try.f90 15) = ov15_T := by kernel_rfl
theorem ov15_bits : waitsOk ov15_T.2 ov15_B = true := by kernel_rfl
def ov16_T : Bool × List (List Nat × List Nat) := (true, [([], []), ([], []), ([0, 1], [0, 1]), ([2], [2]), ([], []), ([], []), ([], []), ([5, 6], [5, 6]), ([7], [7]), ([], []), ([8, 9], [8, 9]), ([10], [10]), ([3, 4, 0, 1, 2, 3, 4, 5, 6, 7, 8, 9, 10, 11], [3, 4]), ([12, 11, 0, 1, 2, 3, 4, 5, 6, 7, 8, 9, 10, 11], [11, 12])])
def ov16_B : List Nat := [0, 0, 3, 7, 0, 0, 0, 96, 224, 0, 992, 2016, 4095, 8191]
theorem ov16_tab : rtab .any (opsOf Try.f90 16) = ov16_T := by kernel_rfl
theorem ov16_bits : waitsOk ov16_T.2 ov16_B = true := by kernel_rfl
/-- so many steps, each of which may fail -/
def foldN {α : Type} (f : α → Nat → Option α) (a : α) : Nat → Option α
  | 0 => some a
  | j + 1 => (foldN f a j).bind fun x => f x j
theorem foldN_pre {α : Type} {f : α → Nat → Option α} {a r : α} {m : Nat} (h : foldN f a m = some r) : ∀ j, j < m → ∃ x y, foldN f a j = some x ∧ f x j = some y ∧ foldN f a (j + 1) = some y := by
  have step : ∀ j y, foldN f a (j + 1) = some y → ∃ x, foldN f a j = some x ∧ f x j = some y := by
    intro j y h
    unfold foldN at h
    obtain ⟨x, h1, h2⟩ := Option.bind_eq_some_iff.1 h
    exact ⟨x, h1, h2⟩
  have down : ∀ d j, j + d = m → ∃ x, foldN f a j = some x := by
    intro d
    induction d with
    | zero => intro j hj; rw [Nat.add_zero] at hj; rw [hj]; exact ⟨r, h⟩
    | succ d ih =>
      intro j hj
      obtain ⟨y, hy⟩ := ih (j + 1) (by omega)
      obtain ⟨x, h1, _⟩ := step j y hy
      exact ⟨x, h1⟩
  intro j hj
  obtain ⟨y, hy⟩ := down (m - (j + 1)) (j + 1) (by omega)
  obtain ⟨x, h1, h2⟩ := step j y hy
  exact ⟨x, y, h1, h2, hy⟩
def ovPut (G : List (List Int)) (a b x : Int) : List (List Int) := G.set a.toNat ((rd_L5 G a).set b.toNat x)
def ovArc (part : List Int) (G : List (List Int)) (x : S33) : Option (List (List Int)) :=
  if 0 ≤ x.f0 ∧ x.f0 < part.length ∧ 0 ≤ x.f1 ∧ x.f1 < part.length then
    if rd part x.f0 = rd part x.f1 then some G
    else if x.f0 < G.length ∧ x.f1 < (rd_L5 G x.f0).length then some (ovPut G x.f0 x.f1 (mn (rd (rd_L5 G x.f0) x.f1) x.f2)) else none
  else none
def ovAB (part : List Int) (W G : List (List Int)) (a b : Int) : Option (List (List Int)) :=
  if a = b then some G
  else if 0 ≤ a ∧ a < part.length ∧ 0 ≤ b ∧ b < part.length then
    if rd part a = rd part b then
      if a < G.length ∧ b < (rd_L5 G a).length ∧ a < W.length ∧ b < (rd_L5 W a).length then some (ovPut G a b (rd (rd_L5 W a) b)) else none
    else some G
  else none
def ovArcs (part : List Int) (l : List S33) (G : List (List Int)) : Nat → Option (List (List Int)) := foldN (fun G j => ovArc part G (rd_T33 l (j : Int))) G
def ovRow (part : List Int) (W : List (List Int)) (es : List Int) (a : Int) (G : List (List Int)) : Nat → Option (List (List Int)) := foldN (fun G j => ovAB part W G a (rd es (j : Int))) G
def ovAll (part : List Int) (W : List (List Int)) (es : List Int) (G : List (List Int)) : Nat → Option (List (List Int)) := foldN (fun G i => ovRow part W es (rd es (i : Int)) G es.length) G
def impl_Net_overlay.f (k : Nat) (a0_0 : Int) (l0_1 : List S33) (l1 : List Int) : Option (List (List Int)) :=
  if l0_1.length ≤ 1000000000 then
    (impl_grid.f k a0_0 99999).bind fun G0 => (ovArcs l1 l0_1 G0 l0_1.length).bind fun G1 => (impl_Net_inside.f a0_0 l0_1 l1).bind fun nl => (impl_Net_table.f k nl.1 nl.2).bind fun W => (impl_Net_edges.f a0_0 l0_1 l1).bind fun es => if es.length ≤ 1000000000 then ovAll l1 W es G1 es.length else none
  else none
/-- a number is stored into a row of rows -/
theorem S_put {W : World} {base n c : Nat} {ok : Nat → Prop} {A' : Option Addr} {c' m : Nat} {xs : List (List Int)} {i j : Int} {a0 : Addr} (h : Kd.S (Kd.slice 3 (Kd.int .i64)) 26 W base ok (.slice (some a0) n c) xs) (hi0 : 0 ≤ i) (hi1 : i < xs.length) (hj0 : 0 ≤ j) (hj1 : j < (rd_L5 xs i).length) (hx : W.cell? (a0.add i.toNat) = some (.slice A' m c')) (x : Int) :
    ∃ g, A' = some ⟨g, 0, none⟩ ∧ base ≤ g ∧ ok g ∧ g < W.heap.size ∧ (∃ cells, W.heap[g]? = some (.cells cells 3 (0, 0))) ∧ W.cell? ⟨g, j.toNat, none⟩ = some (.int .i64 (rd (rd_L5 xs i) j)) ∧ W.frozen? ⟨g, j.toNat, none⟩ = false ∧ Kd.S (Kd.slice 3 (Kd.int .i64)) 26 (W.setCell ⟨g, j.toNat, none⟩ (.int .i64 x)) base ok (.slice (some a0) n c) (ovPut xs i j x) := by
  have hn : n = xs.length := (Kd.S_reads' h).1
  obtain ⟨oki, ce, hcl, hM, hcc, hok, hbk⟩ := Kd.S_borrow h [] i hi0 (by omega)
  obtain ⟨ve, rfl, ge⟩ := hM
  have hv := hcc 0 _ rfl
  rw [Nat.add_zero, show (Kd.slice 3 (Kd.int .i64)).sz = 1 from rfl, Nat.mul_one] at hv
  replace hv := Option.some.inj (hv.symm.trans hx)
  subst hv
  replace ge := (show Kd.R (Kd.int .i64) 3 _ _ _ _ (rd_L5 xs i) from ge)
  obtain ⟨go, co, eo, gb, gl, cl, HG⟩ := Kd.R_form ge (by omega)
  injection eo with e1 e2 e3
  subst e1; subst e3
  obtain ⟨hx0, hf0⟩ := Kd.R_celln 0 ge j hj0 (by omega)
  have HP := Kd.R_putg ge j x
  have HS := hbk HP.2 (fun k_ e_ => by injection e_ with e_; subst e_; exact ge.1 _ rfl) (x' := (rd_L5 xs i).set j.toNat x) (Kd.M_row HP.1)
  exact ⟨go, rfl, gb, (hok go (ge.1 go rfl)).1, gl, ⟨cl, HG⟩, hx0, hf0, HS⟩
set_option maxHeartbeats 8000000 in
set_option maxRecDepth 100000 in
theorem impl_Net_overlay.calls (k : Nat) (a0_0 : Int) (A0_1 : Option Addr) (c0_1 : Nat) (l0_1 : List (S33)) (A1 : Option Addr) (c1 : Nat) (l1 : List Int) (r : List (List Int)) (w : World) (hr0_1 : Kd.C k33 w A0_1 l0_1.length l0_1) (hc0_1 : l0_1.length ≤ c0_1) (hr1 : Kd.C (Kd.int .i64) w A1 l1.length l1) (hc1 : l1.length ≤ c1) (h : impl_Net_overlay.f k a0_0 l0_1 l1 = some r) :
    Calls Try.prog 90 #[.agg #[.int .i64 a0_0, .slice A0_1 l0_1.length c0_1], .slice A1 l1.length c1] w fun e w' => ∃ v0_ : Value, e = .returned v0_ ∧ Kd.S (Kd.slice 3 (Kd.int .i64)) 26 w' w.heap.size (fun _ => True) v0_ r ∧ Below w.heap.size w w' := by
  have hu25 := Try.underlying25
  have hu33 := Try.underlying33
  have HR0_1 := Aside0.mk hr0_1
  have HC0_1 := Aside0.mk hc0_1
  have HR1 := Aside0.mk hr1
  have HC1 := Aside0.mk hc1
  clear hr0_1 hc0_1 hr1 hc1
  have HB := Aside0.mk (Below.refl w.heap.size w)
  unfold impl_Net_overlay.f at h
  by_cases hll : l0_1.length ≤ 1000000000
  rotate_left
  · rw [if_neg hll] at h; cases h
  rw [if_pos hll] at h
  obtain ⟨G0, hG0, h⟩ := Option.bind_eq_some_iff.1 h
  obtain ⟨G1, hG1, h⟩ := Option.bind_eq_some_iff.1 h
  obtain ⟨⟨n2, l2⟩, hIn, h⟩ := Option.bind_eq_some_iff.1 h
  obtain ⟨W, hW, h⟩ := Option.bind_eq_some_iff.1 h
  obtain ⟨es, hes, h⟩ := Option.bind_eq_some_iff.1 h
  by_cases hel : es.length ≤ 1000000000
  rotate_left
  · rw [if_neg hel] at h; cases h
  rw [if_pos hel] at h
  have AG := Aside0.mk hG0
  have A1_ := Aside0.mk hG1
  have AI := Aside0.mk hIn
  have AW := Aside0.mk hW
  have AE := Aside0.mk hes
  have AR := Aside0.mk h
  have HLL := Aside0.mk hll
  have HEL := Aside0.mk hel
  clear h hG0 hG1 hIn hW hes hll hel
  go_enter Try.func90, Try.ntmps90
  go_wp2_with (first | ((with_reducible refine gate_dst (N := 2) rfl ?_); refine be (cs := #[.int .i64 a0_0, .slice A0_1 l0_1.length c0_1]) (t := 25) ?_; intro gb101 hg w5 hbox hb; have BK101 := Aside0.mk hbox; have GE101 := gz w hg (uB0 HB); replace HB := Aside0.mk (below_step (uB0 HB) hb); clear hb hbox hg; obtain ⟨hz0, hz1, hf0, hf1⟩ := bc2 BK101) | (go_at_call 114; (with_reducible refine (impl_grid.calls k a0_0 99999 G0 _ AG.out).mono ?_); rintro e w6 ⟨v103, rfl, ho0, hb⟩; have HO := Aside0.mk (Kd.S_lower ho0 (below_size (uB1 HB GE101.out))); replace BK101 := bb BK101 hb; replace HB := Aside0.mk (below_step (uB1 HB GE101.out) hb); clear hb ho0 hz0 hz1 hf0 hf1; obtain ⟨hz0, hz1, hf0, hf1⟩ := bc2 BK101; obtain ⟨Ao, co, eo⟩ := Kd.S_slice HO.out; subst eo; obtain ⟨no, hno⟩ : ∃ no, no = G0.length := ⟨_, rfl⟩; rw [← hno] at HO ⊢; clear hno))
  go_loopg [19] l0_1.length (fun gg s19 wr => ∃ (j : Nat) (G : List (List Int)), s19 = .int .i64 (j : Int) ∧ j ≤ l0_1.length ∧ l0_1.length - j ≤ gg ∧ Aside0 (ovArcs l1 l0_1 G0 j = some G) ∧ Aside0 (Kd.S (Kd.slice 3 (Kd.int .i64)) 26 wr w.heap.size (fun _ => True) (.slice Ao no co) G) ∧ Aside0 (wr.heap[gb101]? = some (.cells #[.int .i64 a0_0, .slice A0_1 l0_1.length c0_1] 25 (0, 0))) ∧ Aside0 (Below w.heap.size w wr))
  case atStart => exact ⟨0, G0, rfl, Nat.zero_le _, Nat.le_refl _, ⟨rfl⟩, HO, BK101, HB⟩
  case round =>
    clear HO BK101 HB hz0 hz1 hf0 hf1
    obtain ⟨j, G, rfl, hjl, hgj, HG, HO, BK101, HB⟩ := hrel
    by_cases hj : j < l0_1.length
    · have hjz := dl (show (j : Int) < (l0_1.length : Int) by omega)
      obtain ⟨Gx, Gy, e1, e2, e3⟩ := foldN_pre A1_.out j hj
      have e4 := HG.out
      unfold ovArcs at e4
      rw [e4] at e1
      obtain rfl := Option.some.inj e1
      have HN := Aside0.mk (show ovArcs l1 l0_1 G0 (j + 1) = some Gy from e3)
      have e2 := (show ovArc l1 G (rd_T33 l0_1 (j : Int)) = some Gy from e2)
      unfold ovArc at e2
      by_cases c0 : 0 ≤ ((rd_T33 l0_1 (j : Int)).f0) ∧ ((rd_T33 l0_1 (j : Int)).f0) < l1.length ∧ 0 ≤ ((rd_T33 l0_1 (j : Int)).f1) ∧ ((rd_T33 l0_1 (j : Int)).f1) < l1.length
      rotate_left
      · rw [if_neg c0] at e2; cases e2
      rw [if_pos c0] at e2
      obtain ⟨x0, x1, x2, x3⟩ := c0
      have HE2 := Aside0.mk e2
      obtain ⟨ad105, e105, hx105_0, hx105_1, hx105_2, hx105_3, hx105_4⟩ := at_T33 HR0_1.out (j : Int) (by omega) (by omega)
      cases e105
      replace hx105_0 := uc HB hx105_0; replace hx105_1 := uc HB hx105_1; replace hx105_2 := uc HB hx105_2; replace hx105_3 := uc HB hx105_3; replace hx105_4 := uc HB hx105_4
      have p105 := eq_true (show 0 ≤ (j : Int) by omega)
      have q105 := eq_true (show (j : Int) < (l0_1.length : Int) by omega)
      have HJ := Aside0.mk hj
      clear e1 e2 e3 e4 hj
      simp only [Int.toNat_natCast] at hx105_0 hx105_1 hx105_2 hx105_3 hx105_4
      go_wp2_with (first | ((with_reducible refine gate_dst (N := 7) rfl ?_); refine be (cs := #[.int .i64 0, .int .i64 0, .int .i64 0, .int .i64 0, .int .i64 0]) (t := 33) ?_; intro gb106 hg w15 hbox hb; replace HO := Aside0.mk (Kd.S_below (by (with_reducible repeat (first | apply Kd.S_alloc | apply Kd.S_drewN | apply Kd.S_drew)); exact HO.out) hb); have BK106 := Aside0.mk (hbox); have GE106 := gz w hg (uB1 HB GE101.out); replace HB := Aside0.mk (below_step (uB1 HB GE101.out) hb); have NB101_106 := gl hg BK101; have NB106_101 := gr hg BK101; replace BK101 := bb BK101 hb; clear hb hbox hg; have hnb16 := NB106_101.out; have hnc16 := NB101_106.out; obtain ⟨hcz17_0, hcz17_1, hcz17_2, hcz17_3, hcz17_4, hfz17_0, hfz17_1, hfz17_2, hfz17_3, hfz17_4⟩ := bc5 BK106))
      have n0_ : Aside0 (Kd.S (Kd.slice 3 (Kd.int .i64)) 26 (((((w15.setCell ⟨gb106, 0, none⟩ (.int .i64 ((rd_T33 l0_1 (j : Int)).f0))).setCell ⟨gb106, 1, none⟩ (.int .i64 ((rd_T33 l0_1 (j : Int)).f1))).setCell ⟨gb106, 2, none⟩ (.int .i64 ((rd_T33 l0_1 (j : Int)).f2))).setCell ⟨gb106, 3, none⟩ (.int .i64 ((rd_T33 l0_1 (j : Int)).f3))).setCell ⟨gb106, 4, none⟩ (.int .i64 ((rd_T33 l0_1 (j : Int)).f4))) w.heap.size (fun _ => True) (.slice Ao no co) G) := ⟨by exact Kd.S_mono (Kd.S_far (p := ⟨gb106, 4, none⟩) (Kd.S_far (p := ⟨gb106, 3, none⟩) (Kd.S_far (p := ⟨gb106, 2, none⟩) (Kd.S_far (p := ⟨gb106, 1, none⟩) (Kd.S_far (p := ⟨gb106, 0, none⟩) (Kd.S_types HO.out BK106.out (by decide)) (fun _ hk => hk.2) (.int .i64 ((rd_T33 l0_1 (j : Int)).f0))) (fun _ hk => hk.2) (.int .i64 ((rd_T33 l0_1 (j : Int)).f1))) (fun _ hk => hk.2) (.int .i64 ((rd_T33 l0_1 (j : Int)).f2))) (fun _ hk => hk.2) (.int .i64 ((rd_T33 l0_1 (j : Int)).f3))) (fun _ hk => hk.2) (.int .i64 ((rd_T33 l0_1 (j : Int)).f4))) (fun _ hk => trivial)⟩
      have n1_ : Aside0 ((((((w15.setCell ⟨gb106, 0, none⟩ (.int .i64 ((rd_T33 l0_1 (j : Int)).f0))).setCell ⟨gb106, 1, none⟩ (.int .i64 ((rd_T33 l0_1 (j : Int)).f1))).setCell ⟨gb106, 2, none⟩ (.int .i64 ((rd_T33 l0_1 (j : Int)).f2))).setCell ⟨gb106, 3, none⟩ (.int .i64 ((rd_T33 l0_1 (j : Int)).f3))).setCell ⟨gb106, 4, none⟩ (.int .i64 ((rd_T33 l0_1 (j : Int)).f4))).heap[gb101]? = some (.cells #[.int .i64 a0_0, .slice (some ad105) l0_1.length c0_1] 25 (0, 0))) := ⟨by refine fa5 ?_ NB101_106; exact ub BK101⟩
      have n2_ : Aside0 ((((((w15.setCell ⟨gb106, 0, none⟩ (.int .i64 ((rd_T33 l0_1 (j : Int)).f0))).setCell ⟨gb106, 1, none⟩ (.int .i64 ((rd_T33 l0_1 (j : Int)).f1))).setCell ⟨gb106, 2, none⟩ (.int .i64 ((rd_T33 l0_1 (j : Int)).f2))).setCell ⟨gb106, 3, none⟩ (.int .i64 ((rd_T33 l0_1 (j : Int)).f3))).setCell ⟨gb106, 4, none⟩ (.int .i64 ((rd_T33 l0_1 (j : Int)).f4))).heap[gb106]? = some (.cells #[.int .i64 ((rd_T33 l0_1 (j : Int)).f0), .int .i64 ((rd_T33 l0_1 (j : Int)).f1), .int .i64 ((rd_T33 l0_1 (j : Int)).f2), .int .i64 ((rd_T33 l0_1 (j : Int)).f3), .int .i64 ((rd_T33 l0_1 (j : Int)).f4)] 33 (0, 0))) := ⟨by refine pu5 (.int .i64 0) (.int .i64 0) (.int .i64 0) (.int .i64 0) (.int .i64 0) ?_; exact ub BK106⟩
      have n3_ : Aside0 (Below w.heap.size w (((((w15.setCell ⟨gb106, 0, none⟩ (.int .i64 ((rd_T33 l0_1 (j : Int)).f0))).setCell ⟨gb106, 1, none⟩ (.int .i64 ((rd_T33 l0_1 (j : Int)).f1))).setCell ⟨gb106, 2, none⟩ (.int .i64 ((rd_T33 l0_1 (j : Int)).f2))).setCell ⟨gb106, 3, none⟩ (.int .i64 ((rd_T33 l0_1 (j : Int)).f3))).setCell ⟨gb106, 4, none⟩ (.int .i64 ((rd_T33 l0_1 (j : Int)).f4)))) := ⟨uB2 HB GE101.out GE106.out⟩
      clear HO BK101 BK106 HB
      generalize (((((w15.setCell ⟨gb106, 0, none⟩ (.int .i64 ((rd_T33 l0_1 (j : Int)).f0))).setCell ⟨gb106, 1, none⟩ (.int .i64 ((rd_T33 l0_1 (j : Int)).f1))).setCell ⟨gb106, 2, none⟩ (.int .i64 ((rd_T33 l0_1 (j : Int)).f2))).setCell ⟨gb106, 3, none⟩ (.int .i64 ((rd_T33 l0_1 (j : Int)).f3))).setCell ⟨gb106, 4, none⟩ (.int .i64 ((rd_T33 l0_1 (j : Int)).f4))) = w18 at n0_ n1_ n2_ n3_ ⊢
      have HO := n0_; have BK101 := n1_; have BK106 := n2_; have HB := n3_
      clear n0_ n1_ n2_ n3_
      clear hx105_0 hx105_1 hx105_2 hx105_3 hx105_4 hcz17_0 hcz17_1 hcz17_2 hcz17_3 hcz17_4 hfz17_0 hfz17_1 hfz17_2 hfz17_3 hfz17_4 hnb16 hnc16
      replace HO := Aside0.mk (Kd.S_drew HO.out); replace BK101 := Aside0.mk (blk_drew BK101.out); replace BK106 := Aside0.mk (blk_drew BK106.out); replace HB := Aside0.mk (below_drew1 HB.out)
      obtain ⟨ad107, e107, hx107⟩ := Kd.at_int HR1.out ((rd_T33 l0_1 (j : Int)).f0) x0 x1
      cases e107
      obtain ⟨ad108, e108, hx108⟩ := Kd.at_int HR1.out ((rd_T33 l0_1 (j : Int)).f1) x2 x3
      cases e108
      have y107 := uc HB hx107
      have y108 := uc HB hx108
      have z0 := eq_true x0
      have z1 := eq_true x1
      have z2 := eq_true x2
      have z3 := eq_true x3
      refine start_ (n := 11) (S := fun w' => w'.cell? ⟨gb106, 0, none⟩ = some (.int .i64 ((rd_T33 l0_1 (j : Int)).f0)) ∧ w'.cell? ⟨gb106, 1, none⟩ = some (.int .i64 ((rd_T33 l0_1 (j : Int)).f1)) ∧ w'.cell? ⟨gb106, 2, none⟩ = some (.int .i64 ((rd_T33 l0_1 (j : Int)).f2)) ∧ w'.cell? ⟨gb106, 3, none⟩ = some (.int .i64 ((rd_T33 l0_1 (j : Int)).f3)) ∧ w'.cell? ⟨gb106, 4, none⟩ = some (.int .i64 ((rd_T33 l0_1 (j : Int)).f4)) ∧ w'.cell? (ad107.add (((rd_T33 l0_1 (j : Int)).f0)).toNat) = some (.int .i64 (rd l1 ((rd_T33 l0_1 (j : Int)).f0))) ∧ w'.cell? (ad107.add (((rd_T33 l0_1 (j : Int)).f1)).toNat) = some (.int .i64 (rd l1 ((rd_T33 l0_1 (j : Int)).f1)))) (ds := []) (zt 11 0) (by kernel_rfl) rfl (by kernel_rfl) (b5x BK106 ⟨y107, y108⟩) (fun hHeld => ?_)
      refine with_tabW ov5_tab ov5_bits (fun HT_ HW_ => ?_)
      generalize w18.drew = w19 at HO BK101 BK106 HB hHeld y107 y108 ⊢
      refine qz HT_ 0 ?_; refine qz HT_ 1 ?_; refine qz HT_ 5 ?_; refine qz HT_ 6 ?_; refine qt HT_ HW_ hHeld 2 ?_; refine qz HT_ 3 ?_; refine qt HT_ HW_ hHeld 4 ?_; refine qt HT_ HW_ hHeld 7 ?_; refine qz HT_ 8 ?_; refine qt HT_ HW_ hHeld 9 ?_; refine qz HT_ 10 ?_; refine done_ (done_of HT_.out (by kernel_rfl)) ?_
      clear HT_ HW_ y107 y108 hx107 hx108 hHeld
      by_cases c13 : rd l1 ((rd_T33 l0_1 (j : Int)).f0) = rd l1 ((rd_T33 l0_1 (j : Int)).f1)
      · have e2 := HE2.out
        rw [if_pos c13] at e2
        obtain rfl := Option.some.inj e2
        obtain ⟨c13b0, c13b1⟩ := dq c13
        clear c13 e2 HE2
        go_wp2
        go_roundg (l0_1.length - j - 1)
        case measure => have h8 := HJ.out; omega
        case rel => exact ⟨j + 1, G, congrArg (Value.int .i64) (by have h9 := HLL.out; have h8 := HJ.out; first | omega | (unfold wrap64; omega)), (by have h8 := HJ.out; omega), by omega, HN, HO, BK101, HB⟩
      · have e2 := HE2.out
        rw [if_neg c13] at e2
        obtain ⟨c13b0, c13b1⟩ := dQ c13
        by_cases c20 : ((rd_T33 l0_1 (j : Int)).f0) < G.length ∧ ((rd_T33 l0_1 (j : Int)).f1) < (rd_L5 G ((rd_T33 l0_1 (j : Int)).f0)).length
        rotate_left
        · rw [if_neg c20] at e2; cases e2
        rw [if_pos c20] at e2
        obtain ⟨x4, x5⟩ := c20
        have z4 := eq_true x4
        have z5 := eq_true x5
        obtain ⟨ji, hji⟩ : ∃ ji, mn (rd (rd_L5 G ((rd_T33 l0_1 (j : Int)).f0)) ((rd_T33 l0_1 (j : Int)).f1)) ((rd_T33 l0_1 (j : Int)).f2) = ji := ⟨_, rfl⟩
        rw [hji] at e2
        have HGY := Aside0.mk (Option.some.inj e2)
        have hji_ : (if ((rd_T33 l0_1 (j : Int)).f2) < rd (rd_L5 G ((rd_T33 l0_1 (j : Int)).f0)) ((rd_T33 l0_1 (j : Int)).f1) then ((rd_T33 l0_1 (j : Int)).f2) else rd (rd_L5 G ((rd_T33 l0_1 (j : Int)).f0)) ((rd_T33 l0_1 (j : Int)).f1)) = ji := hji
        clear e2 HE2 hji
        try go_wp2
        replace HO := Aside0.mk (Kd.S_drew HO.out); replace BK101 := Aside0.mk (blk_drew BK101.out); replace BK106 := Aside0.mk (blk_drew BK106.out); replace HB := Aside0.mk (below_drew1 HB.out)
        have hnn := (Kd.S_reads' HO.out).1
        obtain ⟨ad109, A109, c109, e109, hx109, hl109, hi109⟩ := at_L5 (Kd.S_reads' HO.out).2.2 ((rd_T33 l0_1 (j : Int)).f0) x0 x4
        cases e109
        obtain ⟨g, eg, gb, _, gl, ⟨cells, hcells⟩, hx110, hf110, hput⟩ := S_put HO.out x0 x4 x2 x5 hx109 ji
        subst eg
        have GB := Aside0.mk gb
        have HP := Aside0.mk hput
        have HCL := Aside0.mk hcells
        have q4 := eq_true (show ((rd_T33 l0_1 (j : Int)).f0) < (no : Int) by omega)
        clear hput hcells gb gl hl109 hi109
        refine start_ (n := 21) (S := fun w' => w'.cell? ⟨gb106, 0, none⟩ = some (.int .i64 ((rd_T33 l0_1 (j : Int)).f0)) ∧ w'.cell? ⟨gb106, 1, none⟩ = some (.int .i64 ((rd_T33 l0_1 (j : Int)).f1)) ∧ w'.cell? ⟨gb106, 2, none⟩ = some (.int .i64 ((rd_T33 l0_1 (j : Int)).f2)) ∧ w'.cell? ⟨gb106, 3, none⟩ = some (.int .i64 ((rd_T33 l0_1 (j : Int)).f3)) ∧ w'.cell? ⟨gb106, 4, none⟩ = some (.int .i64 ((rd_T33 l0_1 (j : Int)).f4)) ∧ w'.cell? (ad109.add (((rd_T33 l0_1 (j : Int)).f0)).toNat) = some (.slice (some ⟨g, 0, none⟩) (rd_L5 G ((rd_T33 l0_1 (j : Int)).f0)).length c109) ∧ w'.cell? ⟨g, (((rd_T33 l0_1 (j : Int)).f1)).toNat, none⟩ = some (.int .i64 (rd (rd_L5 G ((rd_T33 l0_1 (j : Int)).f0)) ((rd_T33 l0_1 (j : Int)).f1)))) (ds := [20]) (zt 21 0) (by kernel_rfl) rfl (by kernel_rfl) (b5x BK106 ⟨hx109, hx110⟩) (fun hHeld => ?_)
        refine with_tabW ov6_tab ov6_bits (fun HT_ HW_ => ?_)
        generalize w19.drew = w29 at HO BK101 BK106 HB hHeld HP HCL hx109 hx110 hf110 ⊢
        refine qz HT_ 0 ?_; refine qz HT_ 1 ?_; refine qz HT_ 5 ?_; refine qz HT_ 7 ?_; refine qz HT_ 8 ?_; refine qz HT_ 12 ?_; refine qz HT_ 16 ?_
        refine qt HT_ HW_ hHeld 2 ?_; refine qz HT_ 3 ?_; refine qt HT_ HW_ hHeld 4 ?_; refine qt HT_ HW_ hHeld 6 ?_; refine qt HT_ HW_ hHeld 9 ?_; refine qz HT_ 10 ?_; refine qt HT_ HW_ hHeld 11 ?_; refine qt HT_ HW_ hHeld 13 ?_; refine qz HT_ 14 ?_; refine qt HT_ HW_ hHeld 15 ?_; refine qt HT_ HW_ hHeld 17 ?_; refine qz HT_ 18 ?_; refine qz HT_ 19 ?_
        refine last_ (i := 20) (N := none) (zt 21 2097151) rfl rfl (one_of HT_.out (by kernel_rfl)) (by decide) (fun K hK => ?_); refine skip_ (w1 := ?_) (by rfl) rfl ?_ ?_; rotate_left
        · go_simp; rfl
        refine hK.out _ _ ?_; clear hK K; refine done_ (done_of HT_.out (by kernel_rfl)) ?_
        clear HT_ HW_ hHeld hx109 hx110 hf110
        try go_wp2
        go_roundg (l0_1.length - j - 1)
        case measure => have h8 := HJ.out; omega
        case rel => exact ⟨j + 1, Gy, congrArg (Value.int .i64) (by have h9 := HLL.out; have h8 := HJ.out; first | omega | (unfold wrap64; omega)), (by have h8 := HJ.out; omega), by omega, HN, ⟨by rw [← HGY.out]; exact HP.out⟩, ⟨blk_far BK101.out (by have h8 := BK101.out; have h9 := HCL.out; intro e_; rw [e_] at h8; rw [h8] at h9; injection h9 with h9; injection h9 with h9 h10; exact absurd h10 (by decide)) _⟩, ⟨uB1 HB GB.out⟩⟩
    · have hjz := DL (show ¬ (j : Int) < (l0_1.length : Int) by omega)
      obtain rfl : j = l0_1.length := by omega
      have hg1 : G = G1 := by have h9 := HG.out; rw [A1_.out] at h9; exact (Option.some.inj h9).symm
      subst hg1
      clear HG
      obtain ⟨hz0, hz1, hf0, hf1⟩ := bc2 BK101
      go_upto_region 9 with (first | (go_at_call 69; (with_reducible refine (impl_Net_inside.calls a0_0 _ _ l0_1 _ _ l1 n2 l2 _ ?side1 ?side2 ?side3 ?side4 AI.out).mono ?_); (case side1 => exact uC HR0_1 HB); (case side2 => exact HC0_1.out); (case side3 => exact uC HR1 HB); (case side4 => exact HC1.out); rintro e w7 ⟨v1, rfl, ho0, hb⟩; have HI := Aside0.mk ho0; replace HO := Aside0.mk (Kd.S_below (by (with_reducible repeat (first | apply Kd.S_alloc | apply Kd.S_drewN | apply Kd.S_drew)); exact HO.out) hb); replace BK101 := bb BK101 hb; replace HB := Aside0.mk (below_step (uB1 HB GE101.out) hb); clear hb ho0; obtain ⟨Ai, ci, ei⟩ := Kd.R_slice HI.out; subst ei) | (go_at_call 81; (with_reducible refine (impl_Net_table.calls k n2 _ _ l2 W _ ?side1 ?side2 AW.out).mono ?_); (case side1 => exact uD (Kd.R_reads' HI.out).2.2); (case side2 => exact (Kd.R_reads' HI.out).2.1); rintro e w8 ⟨vw, rfl, ho0, hb⟩; obtain ⟨hi, hhi⟩ : ∃ hi, hi = w7.heap.size := ⟨_, rfl⟩; have HW := Aside0.mk (Kd.S_lower (Kd.S_mono (ok' := fun k => hi ≤ k) (Kd.S_bound ho0) (fun k hk => by rw [hhi]; exact hk.2.1)) (below_size (uB1 HB GE101.out))); replace HO := Aside0.mk (Kd.S_mono (ok' := fun k => k < hi) (Kd.S_below (Kd.S_bound (by (with_reducible repeat (first | apply Kd.S_alloc | apply Kd.S_drewN | apply Kd.S_drew)); exact HO.out)) hb) (fun k hk => by rw [hhi]; exact hk.2.2.1)); have HHI : Aside0 (hi ≤ w8.heap.size) := ⟨by rw [hhi]; exact hb.size⟩; replace BK101 := bb BK101 hb; replace HB := Aside0.mk (below_step (uB1 HB GE101.out) hb); clear hb ho0 hhi; obtain ⟨Aw, cw, ew⟩ := Kd.S_slice HW.out; subst ew))
      clear hz0 hz1 hf0 hf1
      obtain ⟨hz0, hz1, hf0, hf1⟩ := bc2 BK101
      go_wp2_with (go_at_call 76; (with_reducible refine (impl_Net_edges.calls a0_0 _ _ l0_1 _ _ l1 es _ ?side1 ?side2 ?side3 ?side4 AE.out).mono ?_); (case side1 => exact uC HR0_1 HB); (case side2 => exact HC0_1.out); (case side3 => exact uC HR1 HB); (case side4 => exact HC1.out); rintro e w9 ⟨ve, rfl, ho0, hb⟩; have HE := Aside0.mk (Kd.R_lower (Kd.R_mono (ok' := fun k => hi ≤ k) (Kd.R_bound ho0) (fun k hk => Nat.le_trans HHI.out hk.2.1)) (below_size (uB1 HB GE101.out))); replace HO := Aside0.mk (Kd.S_below (by (with_reducible repeat (first | apply Kd.S_alloc | apply Kd.S_drewN | apply Kd.S_drew)); exact HO.out) hb); replace HW := Aside0.mk (Kd.S_below (by (with_reducible repeat (first | apply Kd.S_alloc | apply Kd.S_drewN | apply Kd.S_drew)); exact HW.out) hb); replace HHI := Aside0.mk (Nat.le_trans HHI.out hb.size); replace BK101 := bb BK101 hb; replace HB := Aside0.mk (below_step (uB1 HB GE101.out) hb); clear hb ho0; obtain ⟨Ae, ce, ee⟩ := Kd.R_slice HE.out; subst ee)
      clear hz0 hz1 hf0 hf1
      go_loopg [63] es.length (fun gg s63 wr => ∃ (i : Nat) (G2 : List (List Int)), s63 = .int .i64 (i : Int) ∧ i ≤ es.length ∧ es.length - i ≤ gg ∧ Aside0 (ovAll l1 W es G i = some G2) ∧ Aside0 (Kd.S (Kd.slice 3 (Kd.int .i64)) 26 wr w.heap.size (fun k => k < hi) (.slice Ao no co) G2) ∧ Aside0 (Kd.S (Kd.slice 3 (Kd.int .i64)) 26 wr w.heap.size (fun k => hi ≤ k) (.slice Aw W.length cw) W) ∧ Aside0 (Kd.R (Kd.int .i64) 3 wr w.heap.size (fun k => hi ≤ k) (.slice Ae es.length ce) es) ∧ Aside0 (wr.heap[gb101]? = some (.cells #[.int .i64 a0_0, .slice A0_1 l0_1.length c0_1] 25 (0, 0))) ∧ Aside0 (hi ≤ wr.heap.size) ∧ Aside0 (Below w.heap.size w wr))
      case atStart => exact ⟨0, G, rfl, Nat.zero_le _, Nat.le_refl _, ⟨rfl⟩, HO, HW, HE, BK101, HHI, HB⟩
      case round =>
        clear HO HW HE BK101 HHI HB
        obtain ⟨i, G2, rfl, hil, hgi, HG2, HO, HW, HE, BK101, HHI, HB⟩ := hrel
        by_cases hi_ : i < es.length
        · have hiz := dl (show (i : Int) < (es.length : Int) by omega)
          obtain ⟨Gx, Gy, e1, e2, e3⟩ := foldN_pre AR.out i hi_
          have e4 := HG2.out
          unfold ovAll at e4
          rw [e4] at e1
          obtain rfl := Option.some.inj e1
          have HN := Aside0.mk (show ovAll l1 W es G (i + 1) = some Gy from e3)
          have HROW := Aside0.mk (show ovRow l1 W es (rd es (i : Int)) G2 es.length = some Gy from e2)
          obtain ⟨ad, ea, hxe⟩ := Kd.at_int (Kd.R_reads' HE.out).2.2 (i : Int) (by omega) (by omega)
          cases ea
          simp only [Int.toNat_natCast] at hxe
          have p0 := eq_true (show 0 ≤ (i : Int) by omega)
          have p1 := eq_true (show (i : Int) < (es.length : Int) by omega)
          have HI_ := Aside0.mk hi_
          clear e1 e2 e3 e4 hi_
          obtain ⟨a, ha⟩ : ∃ a, a = rd es (i : Int) := ⟨_, rfl⟩
          rw [← ha] at hxe HROW
          clear ha
          obtain ⟨hz0, hz1, hf0, hf1⟩ := bc2 BK101
          go_wp2_with (go_at_call 76; (with_reducible refine (impl_Net_edges.calls a0_0 _ _ l0_1 _ _ l1 es _ ?side1 ?side2 ?side3 ?side4 AE.out).mono ?_); (case side1 => exact uC HR0_1 HB); (case side2 => exact HC0_1.out); (case side3 => exact uC HR1 HB); (case side4 => exact HC1.out); rintro e w9 ⟨ve, rfl, ho0, hb⟩; have HE2 := Aside0.mk (Kd.R_lower (Kd.R_mono (ok' := fun k => hi ≤ k) (Kd.R_bound ho0) (fun k hk => Nat.le_trans HHI.out hk.2.1)) (below_size (uB1 HB GE101.out))); replace HO := Aside0.mk (Kd.S_below (by (with_reducible repeat (first | apply Kd.S_alloc | apply Kd.S_drewN | apply Kd.S_drew)); exact HO.out) hb); replace HW := Aside0.mk (Kd.S_below (by (with_reducible repeat (first | apply Kd.S_alloc | apply Kd.S_drewN | apply Kd.S_drew)); exact HW.out) hb); replace HE := Aside0.mk (Kd.R_below (by (with_reducible repeat (first | apply Kd.R_alloc | apply Kd.R_drewN | apply Kd.R_drew)); exact HE.out) hb); replace HHI := Aside0.mk (Nat.le_trans HHI.out hb.size); replace BK101 := bb BK101 hb; replace HB := Aside0.mk (below_step (uB1 HB GE101.out) hb); clear hb ho0; obtain ⟨Af, cf, ee⟩ := Kd.R_slice HE2.out; subst ee)
          clear hz0 hz1 hf0 hf1 hxe
          go_loopg [71] es.length (fun gg s71 wr => ∃ (j : Nat) (G3 : List (List Int)), s71 = .int .i64 (j : Int) ∧ j ≤ es.length ∧ es.length - j ≤ gg ∧ Aside0 (ovRow l1 W es a G2 j = some G3) ∧ Aside0 (Kd.R (Kd.int .i64) 3 wr w.heap.size (fun k => hi ≤ k) (.slice Af es.length cf) es) ∧ Aside0 (Kd.S (Kd.slice 3 (Kd.int .i64)) 26 wr w.heap.size (fun k => k < hi) (.slice Ao no co) G3) ∧ Aside0 (Kd.S (Kd.slice 3 (Kd.int .i64)) 26 wr w.heap.size (fun k => hi ≤ k) (.slice Aw W.length cw) W) ∧ Aside0 (Kd.R (Kd.int .i64) 3 wr w.heap.size (fun k => hi ≤ k) (.slice (some ad) es.length ce) es) ∧ Aside0 (wr.heap[gb101]? = some (.cells #[.int .i64 a0_0, .slice A0_1 l0_1.length c0_1] 25 (0, 0))) ∧ Aside0 (hi ≤ wr.heap.size) ∧ Aside0 (Below w.heap.size w wr))
          case atStart => exact ⟨0, G2, rfl, Nat.zero_le _, Nat.le_refl _, ⟨rfl⟩, HE2, HO, HW, HE, BK101, HHI, HB⟩
          case round =>
            clear HO HW HE BK101 HHI HB HE2
            obtain ⟨j, G3, rfl, hjl, hgj, HG3, HE2, HO, HW, HE, BK101, HHI, HB⟩ := hrel
            by_cases hj : j < es.length
            · have hjz := dl (show (j : Int) < (es.length : Int) by omega)
              obtain ⟨Gu, Gv, e1, e2, e3⟩ := foldN_pre HROW.out j hj
              have e4 := HG3.out
              unfold ovRow at e4
              rw [e4] at e1
              obtain rfl := Option.some.inj e1
              have HN3 := Aside0.mk (show ovRow l1 W es a G2 (j + 1) = some Gv from e3)
              have e2 := (show ovAB l1 W G3 a (rd es (j : Int)) = some Gv from e2)
              obtain ⟨ad2, ea, hxf⟩ := Kd.at_int (Kd.R_reads' HE2.out).2.2 (j : Int) (by omega) (by omega)
              cases ea
              simp only [Int.toNat_natCast] at hxf
              have p2 := eq_true (show 0 ≤ (j : Int) by omega)
              have p3 := eq_true (show (j : Int) < (es.length : Int) by omega)
              have HJ := Aside0.mk hj
              obtain ⟨b, hb_⟩ : ∃ b, b = rd es (j : Int) := ⟨_, rfl⟩
              rw [← hb_] at hxf e2
              have HE2_ := Aside0.mk e2
              clear e1 e3 e4 hj hb_ e2
              by_cases c1 : a = b
              · have e2 := HE2_.out
                unfold ovAB at e2
                rw [if_pos c1] at e2
                obtain rfl := Option.some.inj e2
                obtain ⟨c1b0, c1b1⟩ := dq c1
                clear c1 e2 HE2_
                try go_wp2
                refine start_ (n := 14) (S := fun w' => True) (ds := []) (zt 14 0) (by kernel_rfl) rfl (by kernel_rfl) trivial (fun hHeld => ?_)
                refine with_tabW ov15_tab ov15_bits (fun HT_ HW_ => ?_)
                refine qz HT_ 0 ?_; refine qz HT_ 1 ?_; refine qz HT_ 2 ?_; refine qz HT_ 3 ?_; refine qn HT_ 4 ?_; refine qn HT_ 5 ?_; refine qn HT_ 6 ?_; refine qn HT_ 7 ?_; refine qn HT_ 8 ?_; refine qn HT_ 9 ?_; refine qn HT_ 10 ?_; refine qn HT_ 11 ?_; refine qn HT_ 12 ?_; refine qz HT_ 13 ?_; refine done_ (done_of HT_.out (by kernel_rfl)) ?_
                clear HT_ HW_
                try go_wp2
                go_roundg (es.length - j - 1)
                case measure => have h8 := HJ.out; omega
                case rel => exact ⟨j + 1, G3, congrArg (Value.int .i64) (by have h9 := HEL.out; have h8 := HJ.out; first | omega | (unfold wrap64; omega)), (by have h8 := HJ.out; omega), by omega, HN3, ⟨(by (with_reducible repeat (first | apply Kd.R_alloc | apply Kd.R_drewN | apply Kd.R_drew)); exact HE2.out)⟩, ⟨(by (with_reducible repeat (first | apply Kd.S_alloc | apply Kd.S_drewN | apply Kd.S_drew)); exact HO.out)⟩, ⟨(by (with_reducible repeat (first | apply Kd.S_alloc | apply Kd.S_drewN | apply Kd.S_drew)); exact HW.out)⟩, ⟨(by (with_reducible repeat (first | apply Kd.R_alloc | apply Kd.R_drewN | apply Kd.R_drew)); exact HE.out)⟩, ⟨ub BK101⟩, ⟨HHI.out⟩, ⟨uB1 HB GE101.out⟩⟩
              · have e2 := HE2_.out
                unfold ovAB at e2
                rw [if_neg c1] at e2
                obtain ⟨c1b0, c1b1⟩ := dQ c1
                by_cases c0 : 0 ≤ a ∧ a < l1.length ∧ 0 ≤ b ∧ b < l1.length
                rotate_left
                · rw [if_neg c0] at e2; cases e2
                rw [if_pos c0] at e2
                obtain ⟨x0, x1, x2, x3⟩ := c0
                obtain ⟨ad107, e107, hx107⟩ := Kd.at_int HR1.out a x0 x1
                cases e107
                obtain ⟨ad108, e108, hx108⟩ := Kd.at_int HR1.out b x2 x3
                cases e108
                have y107 := uc HB hx107
                have y108 := uc HB hx108
                have z0 := eq_true x0
                have z1 := eq_true x1
                have z2 := eq_true x2
                have z3 := eq_true x3
                have HE3 := Aside0.mk e2
                clear e2 HE2_ c1 hx107 hx108
                try go_wp2
                replace HO := Aside0.mk (Kd.S_drew HO.out); replace HW := Aside0.mk (Kd.S_drew HW.out); replace HE := Aside0.mk (Kd.R_drew HE.out); replace HE2 := Aside0.mk (Kd.R_drew HE2.out); replace BK101 := Aside0.mk (blk_drew BK101.out); replace HB := Aside0.mk (below_drew1 HB.out); replace HHI : Aside0 (hi ≤ wr.drew.heap.size) := ⟨HHI.out⟩
                refine start_ (n := 14) (S := fun w' => w'.cell? (ad107.add a.toNat) = some (.int .i64 (rd l1 a)) ∧ w'.cell? (ad107.add b.toNat) = some (.int .i64 (rd l1 b))) (ds := []) (zt 14 0) (by kernel_rfl) rfl (by kernel_rfl) ⟨y107, y108⟩ (fun hHeld => ?_)
                refine with_tabW ov15_tab ov15_bits (fun HT_ HW_ => ?_)
                generalize wr.drew = w19 at HO HW HE HE2 BK101 HB HHI hHeld y107 y108 ⊢
                refine qz HT_ 0 ?_; refine qz HT_ 1 ?_; refine qz HT_ 2 ?_; refine qz HT_ 3 ?_; refine qz HT_ 4 ?_; refine qz HT_ 5 ?_; refine qz HT_ 6 ?_; refine qt HT_ HW_ hHeld 7 ?_; refine qz HT_ 8 ?_; refine qz HT_ 9 ?_; refine qz HT_ 10 ?_; refine qt HT_ HW_ hHeld 11 ?_; refine qz HT_ 12 ?_; refine qz HT_ 13 ?_; refine done_ (done_of HT_.out (by kernel_rfl)) ?_
                clear HT_ HW_ hHeld y107 y108
                by_cases c13 : rd l1 a = rd l1 b
                · have e2 := HE3.out
                  rw [if_pos c13] at e2
                  obtain ⟨c13b0, c13b1⟩ := dq c13
                  by_cases c20 : a < G3.length ∧ b < (rd_L5 G3 a).length ∧ a < W.length ∧ b < (rd_L5 W a).length
                  rotate_left
                  · rw [if_neg c20] at e2; cases e2
                  rw [if_pos c20] at e2
                  obtain ⟨x4, x5, x6, x7⟩ := c20
                  have z5 := eq_true x5
                  have z6 := eq_true x6
                  have z7 := eq_true x7
                  have HGY := Aside0.mk (Option.some.inj e2)
                  clear e2 HE3 c13
                  try go_wp2
                  replace HO := Aside0.mk (Kd.S_drew HO.out); replace HW := Aside0.mk (Kd.S_drew HW.out); replace HE := Aside0.mk (Kd.R_drew HE.out); replace HE2 := Aside0.mk (Kd.R_drew HE2.out); replace BK101 := Aside0.mk (blk_drew BK101.out); replace HB := Aside0.mk (below_drew1 HB.out); replace HHI : Aside0 (hi ≤ w19.drew.heap.size) := ⟨HHI.out⟩
                  have hnn := (Kd.S_reads' HO.out).1
                  obtain ⟨ad109, A109, c109, e109, hx109, hl109, hi109⟩ := at_L5 (Kd.S_reads' HO.out).2.2 a x0 x4
                  cases e109
                  obtain ⟨g, eg, gb, gok, gl, ⟨cells, hcells⟩, hx110, hf110, hput⟩ := S_put HO.out x0 x4 x2 x5 hx109 (rd (rd_L5 W a) b)
                  subst eg
                  obtain ⟨ad111, A111, c111, e111, hx111, hl111, hi111⟩ := at_L5 (Kd.S_reads' HW.out).2.2 a x0 x6
                  cases e111
                  obtain ⟨ad112, e112, hx112⟩ := Kd.at_int hi111 b x2 x7
                  cases e112
                  have GB := Aside0.mk gb
                  have GOK := Aside0.mk gok
                  have HP := Aside0.mk hput
                  have HCL := Aside0.mk hcells
                  have q4 := eq_true (show a < (no : Int) by omega)
                  clear hput hcells gb gl hl109 hi109 hl111 hi111 gok
                  refine start_ (n := 14) (S := fun w' => w'.cell? (ad109.add a.toNat) = some (.slice (some ⟨g, 0, none⟩) (rd_L5 G3 a).length c109) ∧ w'.cell? (ad111.add a.toNat) = some (.slice (some ad112) (rd_L5 W a).length c111) ∧ w'.cell? (ad112.add b.toNat) = some (.int .i64 (rd (rd_L5 W a) b))) (ds := [13]) (zt 14 0) (by kernel_rfl) rfl (by kernel_rfl) ⟨hx109, hx111, hx112⟩ (fun hHeld => ?_)
                  refine with_tabW ov16_tab ov16_bits (fun HT_ HW_ => ?_)
                  generalize w19.drew = w29 at HO HW HE HE2 BK101 HB HHI hHeld HP HCL hx109 hx110 hf110 hx111 hx112 ⊢
                  refine qz HT_ 0 ?_; refine qz HT_ 1 ?_; refine qz HT_ 2 ?_; refine qz HT_ 4 ?_; refine qz HT_ 5 ?_; refine qz HT_ 6 ?_; refine qz HT_ 7 ?_; refine qz HT_ 9 ?_
                  refine qt HT_ HW_ hHeld 3 ?_; refine qt HT_ HW_ hHeld 8 ?_; refine qz HT_ 10 ?_; refine qt HT_ HW_ hHeld 11 ?_; refine qz HT_ 12 ?_
                  refine last_ (i := 13) (N := none) (zt 14 16383) rfl rfl (one_of HT_.out (by kernel_rfl)) (by decide) (fun K hK => ?_); refine skip_ (w1 := ?_) (by rfl) rfl ?_ ?_; rotate_left
                  · go_simp; rfl
                  refine hK.out _ _ ?_; clear hK K; refine done_ (done_of HT_.out (by kernel_rfl)) ?_
                  clear HT_ HW_ hHeld hx109 hx110 hf110 hx111 hx112
                  try go_wp2
                  go_roundg (es.length - j - 1)
                  case measure => have h8 := HJ.out; omega
                  case rel => exact ⟨j + 1, Gv, congrArg (Value.int .i64) (by have h9 := HEL.out; have h8 := HJ.out; first | omega | (unfold wrap64; omega)), (by have h8 := HJ.out; omega), by omega, HN3, ⟨Kd.R_far HE2.out (p := ⟨g, b.toNat, none⟩) (fun k hk => by have h9 := GOK.out; show k ≠ g; omega) _⟩, ⟨by rw [← HGY.out]; exact HP.out⟩, ⟨Kd.S_far HW.out (p := ⟨g, b.toNat, none⟩) (fun k hk => by have h9 := GOK.out; show k ≠ g; omega) _⟩, ⟨Kd.R_far HE.out (p := ⟨g, b.toNat, none⟩) (fun k hk => by have h9 := GOK.out; show k ≠ g; omega) _⟩, ⟨blk_far BK101.out (by have h8 := BK101.out; have h9 := HCL.out; intro e_; rw [e_] at h8; rw [h8] at h9; injection h9 with h9; injection h9 with h9 h10; exact absurd h10 (by decide)) _⟩, ⟨by have h9 := HHI.out; simpa [World.setCell] using h9⟩, ⟨uB1 HB GB.out⟩⟩
                · have e2 := HE3.out
                  rw [if_neg c13] at e2
                  obtain rfl := Option.some.inj e2
                  obtain ⟨c13b0, c13b1⟩ := dQ c13
                  clear e2 HE3 c13
                  go_wp2
                  go_roundg (es.length - j - 1)
                  case measure => have h8 := HJ.out; omega
                  case rel => exact ⟨j + 1, G3, congrArg (Value.int .i64) (by have h9 := HEL.out; have h8 := HJ.out; first | omega | (unfold wrap64; omega)), (by have h8 := HJ.out; omega), by omega, HN3, HE2, HO, HW, HE, BK101, HHI, HB⟩
            · have hjz := DL (show ¬ (j : Int) < (es.length : Int) by omega)
              obtain rfl : j = es.length := by omega
              have hg1 : G3 = Gy := by have h9 := HG3.out; rw [HROW.out] at h9; exact (Option.some.inj h9).symm
              subst hg1
              clear HG3
              go_wp2
              go_roundg (es.length - i - 1)
              case measure => have h8 := HI_.out; omega
              case rel => exact ⟨i + 1, G3, congrArg (Value.int .i64) (by have h9 := HEL.out; have h8 := HI_.out; first | omega | (unfold wrap64; omega)), (by have h8 := HI_.out; omega), by omega, HN, HO, HW, HE, BK101, HHI, HB⟩
        · have hiz := DL (show ¬ (i : Int) < (es.length : Int) by omega)
          obtain rfl : i = es.length := by omega
          have hg1 : G2 = r := by have h9 := HG2.out; rw [AR.out] at h9; exact (Option.some.inj h9).symm
          subst hg1
          clear HG2
          go_wp2
          go_ret
          exact ⟨_, rfl, Kd.S_mono HO.out (fun _ _ => trivial), HB.out⟩
end Go.Proofs.Ytblpdfgplifccaa.P
