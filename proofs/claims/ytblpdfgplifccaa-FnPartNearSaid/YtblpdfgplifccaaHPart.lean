/- Contracts: (Net).edges and (Net).inside: a literal that captures a number and a row is handed to the library. -/
import Derived.Test.YtblpdfgplifccaaHNet
import Derived.Test.YtblpdfgplifccaaHLib
import Derived.Test.YtblpdfgplifccaaHUp
set_option linter.unusedVariables false
set_option linter.unusedSimpArgs false
namespace Go.Proofs.Ytblpdfgplifccaa.P
open Go.RowKit Go.Proofs.YtblpdfgplifccaaV.PrintWords Go.Proofs.YtblpdfgplifccaaV.PrintLast Go.Proofs.YtblpdfgplifccaaV.PrintMore
/-- does an arc touch a node and leave its part -/
def edgeB (part : List Int) (v : Int) (x : S33) : Bool := (x.f0 == v || x.f1 == v) && (rd part x.f0 != rd part x.f1)
def arcsIn (m : Nat) (l : List S33) : Prop := ∀ x ∈ l, (0 ≤ x.f0 ∧ x.f0 < m) ∧ (0 ≤ x.f1 ∧ x.f1 < m)
instance (m : Nat) (l : List S33) : Decidable (arcsIn m l) := by unfold arcsIn; infer_instance
def edgesOf (l : List S33) (part : List Int) : Nat → List Int
  | 0 => []
  | n + 1 => if l.any (edgeB part n) then edgesOf l part n ++ [(n : Int)] else edgesOf l part n
theorem edgesOf_len (l : List S33) (part : List Int) (n : Nat) : (edgesOf l part n).length ≤ n := by
  induction n with
  | zero => exact Nat.le_refl _
  | succ n ih =>
    unfold edgesOf
    split
    · rw [List.length_append]; simp; omega
    · omega
theorem edgesOf_hit {l : List S33} {part : List Int} {n : Nat} (h : l.any (edgeB part (n : Int)) = true) : edgesOf l part (n + 1) = edgesOf l part n ++ [(n : Int)] := by
  show (if l.any (edgeB part (n : Int)) = true then _ else _) = _
  rw [if_pos h]
theorem edgesOf_miss {l : List S33} {part : List Int} {n : Nat} (h : l.any (edgeB part (n : Int)) = false) : edgesOf l part (n + 1) = edgesOf l part n := by
  show (if l.any (edgeB part (n : Int)) = true then _ else _) = _
  rw [if_neg (by rw [h]; decide)]
theorem wr1 (i : Nat) (h : i ≤ 8) : wrap64 ((i : Int) + 1) = ((i + 1 : Nat) : Int) := by
  unfold wrap64; omega
def impl_Net_edges.f (nodes : Int) (l : List S33) (part : List Int) : Option (List Int) := if (0 ≤ nodes ∧ nodes ≤ 8) ∧ arcsIn part.length l then some (edgesOf l part nodes.toNat) else none

set_option maxHeartbeats 2000000 in
theorem edges1_calls (x : S33) (v : Int) (A : Option Addr) (c : Nat) (part : List Int) (gv gp : Nat) (W : World) (hv : W.cell? ⟨gv, 0, none⟩ = some (.int .i64 v)) (hp : W.cell? ⟨gp, 0, none⟩ = some (.slice A part.length c))
    (hr : Kd.C (Kd.int .i64) W A part.length part) (h0 : 0 ≤ x.f0 ∧ x.f0 < part.length) (h1 : 0 ≤ x.f1 ∧ x.f1 < part.length) :
    Calls Try.prog 110 #[.agg #[.int .i64 x.f0, .int .i64 x.f1, .int .i64 x.f2, .int .i64 x.f3, .int .i64 x.f4], .pointer (some ⟨gv, 0, none⟩), .pointer (some ⟨gp, 0, none⟩)] W fun e w' => e = .returned (.bool (edgeB part v x)) ∧ Below W.heap.size W w' := by
  have hu := Try.underlying33
  obtain ⟨ad, e0, g0⟩ := Kd.at_int hr x.f0 h0.1 h0.2
  obtain ⟨ad1, e1, g1⟩ := Kd.at_int hr x.f1 h1.1 h1.2
  cases e0
  cases e1
  have HB := Aside0.mk (Below.refl W.heap.size W)
  have lv := World.block_lt_of_cell? W _ hv
  have lp := World.block_lt_of_cell? W _ hp
  have p0 := eq_true h0.1
  have q0 := eq_true h0.2
  have p1 := eq_true h1.1
  have q1 := eq_true h1.2
  have d0 := de h0.1
  have d1 := dl h0.2
  have d2 := de h1.1
  have d3 := dl h1.2
  clear hr
  go_enter Try.func110, Try.ntmps110
  go_wp2_with (first | ((with_reducible refine gate_dst (N := 3) rfl ?_); refine be (cs := #[.int .i64 x.f0, .int .i64 x.f1, .int .i64 x.f2, .int .i64 x.f3, .int .i64 x.f4]) (t := 33) ?_; intro gb hg w7 hbox hb; have BK := Aside0.mk (hbox); replace HB := Aside0.mk (below_step (uB0 HB) hb); clear hb hbox hg))
  replace hv := uc HB hv
  replace hp := uc HB hp
  replace g0 := uc HB g0
  replace g1 := uc HB g1
  obtain ⟨z0, z1, z2, z3, z4, f0, f1, f2, f3, f4⟩ := bc5 BK
  by_cases c0 : x.f0 = v
  · obtain ⟨b0, b1⟩ := dq c0
    clear c0
    by_cases c2 : rd part x.f0 = rd part x.f1
    · obtain ⟨b2, b3⟩ := dq c2
      clear c2
      go_quiet (fail)
      try go_wp2
      go_ret
      exact ⟨by simp [edgeB, b0, b3], uB0 HB⟩
    · obtain ⟨b2, b3⟩ := dQ c2
      clear c2
      go_quiet (fail)
      try go_wp2
      go_ret
      exact ⟨by simp [edgeB, b0, b3], uB0 HB⟩
  · obtain ⟨b0, b1⟩ := dQ c0
    clear c0
    by_cases c1 : x.f1 = v
    · obtain ⟨b4, b5⟩ := dq c1
      clear c1
      by_cases c2 : rd part x.f0 = rd part x.f1
      · obtain ⟨b2, b3⟩ := dq c2
        clear c2
        go_quiet (fail)
        try go_wp2
        go_ret
        exact ⟨by simp [edgeB, b4, b3], uB0 HB⟩
      · obtain ⟨b2, b3⟩ := dQ c2
        clear c2
        go_quiet (fail)
        try go_wp2
        go_ret
        exact ⟨by simp [edgeB, b4, b3], uB0 HB⟩
    · obtain ⟨b4, b5⟩ := dQ c1
      clear c1
      go_quiet (fail)
      try go_wp2
      go_ret
      exact ⟨by simp [edgeB, b0, b4], uB0 HB⟩

set_option maxHeartbeats 4000000 in
set_option maxRecDepth 100000 in
theorem impl_Net_edges.calls (a0_0 : Int) (A0_1 : Option Addr) (c0_1 : Nat) (l0_1 : List (S33)) (A1 : Option Addr) (c1 : Nat) (l1 : List Int) (r : List Int) (w : World) (hr0_1 : Kd.C k33 w A0_1 l0_1.length l0_1) (hc0_1 : l0_1.length ≤ c0_1) (hr1 : Kd.C (Kd.int .i64) w A1 l1.length l1) (hc1 : l1.length ≤ c1) (h : impl_Net_edges.f a0_0 l0_1 l1 = some r) :
    Calls Try.prog 76 #[.agg #[.int .i64 a0_0, .slice A0_1 l0_1.length c0_1], .slice A1 l1.length c1] w fun e w' => ∃ v0_ : Value, e = .returned (v0_) ∧ Kd.R (Kd.int .i64) 3 w' w.heap.size (fun _ => True) v0_ r ∧ Below w.heap.size w w' := by
  have hu25 := Try.underlying25
  have HR0_1 := Aside0.mk hr0_1
  have HC0_1 := Aside0.mk hc0_1
  clear hr0_1 hc0_1
  have HR1 := Aside0.mk hr1
  have HC1 := Aside0.mk hc1
  clear hr1 hc1
  have HB := Aside0.mk (Below.refl w.heap.size w)
  unfold impl_Net_edges.f at h
  by_cases hin : (0 ≤ a0_0 ∧ a0_0 ≤ 8) ∧ arcsIn l1.length l0_1
  rotate_left
  · rw [if_neg hin] at h; exact absurd h (by simp)
  rw [if_pos hin] at h
  obtain ⟨⟨hn0, hn8⟩, hin⟩ := hin
  have HIN := Aside0.mk hin
  clear hin
  obtain ⟨n, rfl⟩ : ∃ n : Nat, a0_0 = (n : Int) := ⟨a0_0.toNat, by omega⟩
  rw [Int.toNat_natCast] at h
  obtain rfl := Option.some.inj h
  clear h
  have eg := Aside0.mk (enters_of (P := Try.prog) Try.func110 (by kernel_rfl) rfl)
  have c5b0 := de hn0
  obtain ⟨y102, hy102⟩ : ∃ y_ : List Int, y_ = edgesOf l0_1 l1 0 := ⟨_, rfl⟩
  have Ny102 := Aside0.mk hy102
  clear hy102
  have HN := Aside0.mk hn8
  clear hn8
  go_enter Try.func76, Try.ntmps76
  go_wp2_with (first | ((with_reducible refine gate_dst (N := 2) rfl ?_); refine be (cs := #[.int .i64 n, .slice A0_1 l0_1.length c0_1]) (t := 25) ?_; intro gb101 hg w3 hbox hb; have BK101 := Aside0.mk (hbox); have GW101 := gz w hg (uB0 HB); have GE101 := gz w hg (uB0 HB); replace HB := Aside0.mk (below_step (uB0 HB) hb); clear hb hbox hg) | ((with_reducible refine gate_dst (N := 3) rfl ?_); refine be (cs := #[.slice A1 l1.length c1]) (t := 26) ?_; intro gb102 hg w4 hbox hb; have BK102 := Aside0.mk (hbox); have GW102 := gz w hg (uB1 HB GE101.out); have GE102 := gz w hg (uB1 HB GE101.out); replace HB := Aside0.mk (below_step (uB1 HB GE101.out) hb); have NB101_102 := gl hg BK101; have NB102_101 := gr hg BK101; replace BK101 := bb BK101 hb; clear hb hbox hg; obtain ⟨hcz1_0, hcz1_1, hfz1_0, hfz1_1⟩ := bc2 BK101) | ((with_reducible refine gate_dst (N := 9) rfl ?_); refine Kd.R_room (Kd.int .i64) _ 3 rfl (N := 9) rfl 26 _ _ rfl (n : Int) rfl rfl Try.underlying26 (.int .i64 0) 8 info3 rfl (by omega) (ok := fun _ => True) trivial (ua) (by have := HN.out; omega) (Below.refl _ _) (Nat.le_refl _) ?_; intro v103 w5 ho5 hb hg_ hnew_; clear hg_ hnew_; have HO103 := Aside0.mk (Kd.R_lower ho5 (below_size (uB2 HB GE101.out GE102.out))); replace BK101 := bb BK101 hb; replace BK102 := bb BK102 hb; replace HB := Aside0.mk (below_step (uB2 HB GE101.out GE102.out) hb); clear hb ho5; obtain ⟨hcz2_0, hcz2_1, hfz2_0, hfz2_1⟩ := bc2 BK101))
  go_loopg [5, 12] (n + 1) (fun kq v5 v12 w' => ∃ i : Nat, v12 = .int .i64 (i : Int) ∧ i ≤ n ∧ n + 1 - i ≤ kq ∧ Aside0 (Kd.R (Kd.int .i64) 3 w' w.heap.size (fun _ => True) v5 (edgesOf l0_1 l1 i)) ∧ Aside0 (w'.heap[gb101]? = some (.cells #[.int .i64 n, .slice A0_1 l0_1.length c0_1] 25 (0, 0))) ∧ Aside0 (w'.heap[gb102]? = some (.cells #[.slice A1 l1.length c1] 26 (0, 0))) ∧ Aside0 (Below w.heap.size w w'))
  case atStart => exact ⟨0, rfl, Nat.zero_le _, by omega, ⟨ur HO103⟩, ⟨ub BK101⟩, ⟨ub BK102⟩, ⟨uB2 HB GE101.out GE102.out⟩⟩
  case round =>
    obtain ⟨i, rfl, hin, hgi, HO_5, BK101, BK102, HB⟩ := hrel
    clear hcz1_0 hcz1_1 hfz1_0 hfz1_1 hcz2_0 hcz2_1 hfz2_0 hfz2_1
    by_cases hlt : i < n
    · have cb := dl (show (i : Int) < (n : Int) by omega)
      obtain ⟨hcx_0, hcx_1, hfx_0, hfx_1⟩ := bc2 BK101
      cases hq0 : l0_1.any (edgeB l1 (i : Int)) with
      | true =>
        have hq := Aside0.mk hq0
        clear hq0
        go_wp2_with (first | ((with_reducible refine gate_dst (N := 6) rfl ?_); refine be (cs := #[.int .i64 0]) (t := 3) ?_; intro gb106 hg w7 hbox hb; have BK106 := Aside0.mk (hbox); replace HO_5 := Aside0.mk (Kd.R_below (Kd.R_elderB (ur HO_5) gb106 (Nat.le_of_eq hg.symm)) hb); have GE106 := gz w hg (uB2 HB GE101.out GE102.out); replace HB := Aside0.mk (below_step (uB2 HB GE101.out GE102.out) hb); have NB101_106 := gl hg BK101; have NB106_101 := gr hg BK101; replace BK101 := bb BK101 hb; have NB102_106 := gl hg BK102; have NB106_102 := gr hg BK102; replace BK102 := bb BK102 hb; clear hb hbox hg; have hnb1 := NB106_101.out; have hnc1 := NB101_106.out; obtain ⟨hcy_0, hcy_1, hfy_0, hfy_1⟩ := bc2 BK101; have hcz_0 := (blk_cell BK106.out 0).trans rfl; have hfz_0 := blk_frozen BK106.out 0))
        have n0_ : Aside0 ((w7.setCell ⟨gb106, 0, none⟩ (.int .i64 (i : Int))).heap[gb106]? = some (.cells #[.int .i64 (i : Int)] 3 (0, 0))) := ⟨blk_put (cs := #[.int .i64 0]) BK106.out 0 _ rfl⟩
        have n1_ := Aside0.mk (blk_far (p := ⟨gb106, 0, none⟩) BK101.out NB101_106.out (.int .i64 (i : Int)))
        have n2_ := Aside0.mk (blk_far (p := ⟨gb106, 0, none⟩) BK102.out NB102_106.out (.int .i64 (i : Int)))
        have n3_ : Aside0 (Below w.heap.size w (w7.setCell ⟨gb106, 0, none⟩ (.int .i64 (i : Int)))) := ⟨uB1 HB GE106.out⟩
        have n4_ := Aside0.mk (Kd.R_far (p := ⟨gb106, 0, none⟩) HO_5.out (fun _ hk => hk.2) (.int .i64 (i : Int)))
        clear BK106 BK101 BK102 HB HO_5
        generalize (w7.setCell ⟨gb106, 0, none⟩ (.int .i64 (i : Int))) = w8 at n0_ n1_ n2_ n3_ n4_ ⊢
        refine (containsFunc_arc (edgeB l1 (i : Int)) 110 #[.pointer (some ⟨gb106, 0, none⟩), .pointer (some ⟨gb102, 0, none⟩)] eg.out A0_1 c0_1 l0_1 _ ?s1 ?s2).mono ?_
        (case s1 => exact uC HR0_1 n3_)
        (case s2 => exact fun W x hx hbl => edges1_calls x (i : Int) A1 c1 l1 gb106 gb102 W ((blk_cell (blk_below n0_.out hbl) 0).trans rfl) ((blk_cell (blk_below n2_.out hbl) 0).trans rfl) (Kd.C_below (Kd.C_below HR1.out n3_.out) hbl) (HIN.out x hx).1 (HIN.out x hx).2)
        rw [hq.out]
        rintro e w9 ⟨rfl, hb⟩
        have BK106 := bb n0_ hb
        have BK101 := bb n1_ hb
        have BK102 := bb n2_ hb
        have HO_5 := Aside0.mk (Kd.R_below (ur n4_) hb)
        have HB := Aside0.mk (below_step (uB0 n3_) hb)
        clear n0_ n1_ n2_ n3_ n4_ hb
        have hcw_0 := (blk_cell BK106.out 0).trans rfl
        go_wp2_with (first | ((with_reducible refine gate_builtin (b := .append) (xs := #[.tmp 19, .tmp 21]) rfl ?_); at_builtin; refine Kd.R_append (Kd.int .i64) (w0 := w) w.heap.size rfl (.tmp 19) (.tmp 21) 26 3 (.int .i64 0) 8 rfl Try.underlying26 info3 rfl (by decide) (by omega) u5 (edgesOf l0_1 l1 i) (i : Int) [.int .i64 (i : Int)] (fun _ => True) (fun _ => False) rfl rfl ?aP (fun _ hk => hk.elim) ?aF ?aO ?aB ?aS ?aL ?_; (case aP => exact rfl); (case aB => exact (uB0 HB)); (case aF => exact (fun _ _ => trivial)); (case aO => exact (Kd.R_mono HO_5.out (fun _ _ => trivial))); (case aS => exact (below_size (uB0 HB))); (case aL => have := edgesOf_len l0_1 l1 i; have := HN.out; omega); intro v109 w24 ho hb hg hat; replace BK101 := bg BK101 hg (Kd.R_ne HO_5.out BK101.out (by decide)); replace BK102 := bg BK102 hg (Kd.R_ne HO_5.out BK102.out (by decide)); replace HB := Aside0.mk (hb); have HO110 := Aside0.mk (ho); clear HO_5; clear ho hb hg hat))
        go_roundg (n - i)
        case measure => omega
        case rel => exact ⟨i + 1, congrArg (Value.int .i64) (wr1 i (by have := HN.out; omega)), by omega, by omega, ⟨by rw [edgesOf_hit hq.out]; exact HO110.out⟩, ⟨ub BK101⟩, ⟨ub BK102⟩, ⟨uB0 HB⟩⟩
      | false =>
        have hq := Aside0.mk hq0
        clear hq0
        go_wp2_with (first | ((with_reducible refine gate_dst (N := 6) rfl ?_); refine be (cs := #[.int .i64 0]) (t := 3) ?_; intro gb106 hg w7 hbox hb; have BK106 := Aside0.mk (hbox); replace HO_5 := Aside0.mk (Kd.R_below (Kd.R_elderB (ur HO_5) gb106 (Nat.le_of_eq hg.symm)) hb); have GE106 := gz w hg (uB2 HB GE101.out GE102.out); replace HB := Aside0.mk (below_step (uB2 HB GE101.out GE102.out) hb); have NB101_106 := gl hg BK101; have NB106_101 := gr hg BK101; replace BK101 := bb BK101 hb; have NB102_106 := gl hg BK102; have NB106_102 := gr hg BK102; replace BK102 := bb BK102 hb; clear hb hbox hg; have hnb1 := NB106_101.out; have hnc1 := NB101_106.out; obtain ⟨hcy_0, hcy_1, hfy_0, hfy_1⟩ := bc2 BK101; have hcz_0 := (blk_cell BK106.out 0).trans rfl; have hfz_0 := blk_frozen BK106.out 0))
        have n0_ : Aside0 ((w7.setCell ⟨gb106, 0, none⟩ (.int .i64 (i : Int))).heap[gb106]? = some (.cells #[.int .i64 (i : Int)] 3 (0, 0))) := ⟨blk_put (cs := #[.int .i64 0]) BK106.out 0 _ rfl⟩
        have n1_ := Aside0.mk (blk_far (p := ⟨gb106, 0, none⟩) BK101.out NB101_106.out (.int .i64 (i : Int)))
        have n2_ := Aside0.mk (blk_far (p := ⟨gb106, 0, none⟩) BK102.out NB102_106.out (.int .i64 (i : Int)))
        have n3_ : Aside0 (Below w.heap.size w (w7.setCell ⟨gb106, 0, none⟩ (.int .i64 (i : Int)))) := ⟨uB1 HB GE106.out⟩
        have n4_ := Aside0.mk (Kd.R_far (p := ⟨gb106, 0, none⟩) HO_5.out (fun _ hk => hk.2) (.int .i64 (i : Int)))
        clear BK106 BK101 BK102 HB HO_5
        generalize (w7.setCell ⟨gb106, 0, none⟩ (.int .i64 (i : Int))) = w8 at n0_ n1_ n2_ n3_ n4_ ⊢
        refine (containsFunc_arc (edgeB l1 (i : Int)) 110 #[.pointer (some ⟨gb106, 0, none⟩), .pointer (some ⟨gb102, 0, none⟩)] eg.out A0_1 c0_1 l0_1 _ ?s1 ?s2).mono ?_
        (case s1 => exact uC HR0_1 n3_)
        (case s2 => exact fun W x hx hbl => edges1_calls x (i : Int) A1 c1 l1 gb106 gb102 W ((blk_cell (blk_below n0_.out hbl) 0).trans rfl) ((blk_cell (blk_below n2_.out hbl) 0).trans rfl) (Kd.C_below (Kd.C_below HR1.out n3_.out) hbl) (HIN.out x hx).1 (HIN.out x hx).2)
        rw [hq.out]
        rintro e w9 ⟨rfl, hb⟩
        have BK106 := bb n0_ hb
        have BK101 := bb n1_ hb
        have BK102 := bb n2_ hb
        have HO_5 := Aside0.mk (Kd.R_below (ur n4_) hb)
        have HB := Aside0.mk (below_step (uB0 n3_) hb)
        clear n0_ n1_ n2_ n3_ n4_ hb
        have hcw_0 := (blk_cell BK106.out 0).trans rfl
        go_wp2
        go_roundg (n - i)
        case measure => omega
        case rel => exact ⟨i + 1, congrArg (Value.int .i64) (wr1 i (by have := HN.out; omega)), by omega, by omega, ⟨by rw [edgesOf_miss hq.out]; exact Kd.R_mono HO_5.out (fun _ _ => trivial)⟩, ⟨ub BK101⟩, ⟨ub BK102⟩, ⟨uB0 HB⟩⟩
    · have cb := DL (show ¬ (i : Int) < (n : Int) by omega)
      obtain rfl : i = n := by omega
      obtain ⟨Ao2, co2, eo2⟩ := Kd.R_slice HO_5.out
      subst eo2
      obtain ⟨i03, hi03, _, hsz3, _⟩ := info_parts info3
      have hcut3 : ∀ W : World, (Instr.slice 26 (.slice Ao2 (edgesOf l0_1 l1 i).length co2) none (some (.int .i64 ((edgesOf l0_1 l1 i).length : Int))) (some (.int .i64 ((edgesOf l0_1 l1 i).length : Int)))).run Try.prog W = .ok (.slice Ao2 (edgesOf l0_1 l1 i).length (edgesOf l0_1 l1 i).length) W := by exact cut_clip (P := Try.prog) 26 3 .i64 .i64 Try.underlying26 hi03 _ _ _ (Kd.R_reads' HO_5.out).2.1
      have hr3 := Aside0.mk (Kd.R_clip HO_5.out)
      clear hi03 hsz3 HO_5
      go_wp2
      go_ret
      exact ⟨_, rfl, ur hr3, uB2 HB GE101.out GE102.out⟩
end Go.Proofs.Ytblpdfgplifccaa.P
