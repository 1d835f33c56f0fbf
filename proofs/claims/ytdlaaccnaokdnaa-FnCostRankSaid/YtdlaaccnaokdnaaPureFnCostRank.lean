/- The laws' own tests of likeness, of a thing with itself; RankOf of the program; ranks compared; What is drawn: each draw ends, and what it tells lies within bounds; A drawn net is ok, a drawn order is one; what the laws of a rank draw; C's own: a net with other costs, without spec.CostNet; CostRank on both sides: the rank of the net with the other costs, and how many places of the table differ; FnCostRank is true of every code. -/
import Derived.Test.YtdlaaccnaokdnaaMEv
import Derived.Test.YtdlaaccnaokdnaaGWk
import Derived.Test.YtdlaaccnaokdnaaMRankK
import Derived.Test.YtdlaaccnaokdnaaPFImplRankof
import Derived.Test.YtdlaaccnaokdnaaPFLawsWkrank
import Derived.Test.YtdlaaccnaokdnaaPFSpecL30RdPick
import Derived.Test.YtdlaaccnaokdnaaGOpen
import Derived.Laws.Bits64
import Derived.Test.YtdlaaccnaokdnaaHL30R
import Derived.Test.YtdlaaccnaokdnaaMNetOk
import Derived.Test.YtdlaaccnaokdnaaPFImplCostnet
import Derived.Test.YtdlaaccnaokdnaaPFSpecL9Net
import Derived.Test.YtdlaaccnaokdnaaPFSpecL9Ok
import Derived.Test.YtdlaaccnaokdnaaPFSpecL30Costs
import Derived.Test.YtdlaaccnaokdnaaPFImplCostrank
import Derived.Test.YtdlaaccnaokdnaaPFSpecCostrank
import Derived.Test.YtdlaaccnaokdnaaPFLawsFncostrank
set_option linter.unusedVariables false
namespace Go.Proofs.Ytdlaaccnaokdnaa.M
open Go.RowKit Go.Proofs.Ytdlaaccnaokdnaa.P Go.Proofs.YtdlaaccnaokdnaaV.PrintWords Go.Proofs.YtdlaaccnaokdnaaV.PrintMore

theorem rdL5_at_ (T : List (List Int)) (i : Nat) (hi : i < T.length) : rd_L5 T (i : Int) = T[i] := by
  simp [rd_L5, List.getD, hi]
theorem wkInts_self (l : List Int) (hl : l.length ≤ 4611686018427387904) : Ev (fun k => laws_wkInts.f k l l) true := by
  refine Ev.congr (G := fun k => laws_wkInts.l0 k l l 0) (fun k => by unfold laws_wkInts.f; rw [if_pos rfl]) ?_
  refine downto (P := fun i => Ev (fun k => laws_wkInts.l0 k l l (i : Int)) true) (n := l.length) ?_ ?_
  · refine Ev.step (G := fun _ => some true) (fun k => ?_) (Ev.ret _)
    simp only [laws_wkInts.l0]
    rw [if_neg (by omega)]
  · intro i hi h
    refine Ev.step (fun k => ?_) h
    simp only [laws_wkInts.l0, if_true]
    rw [if_pos (by omega), if_pos (by omega), if_pos (by omega), w64s (by omega)]
theorem wkGrid_self (g : List (List Int)) (hg : g.length ≤ 4611686018427387904) (hr : ∀ r ∈ g, r.length ≤ 4611686018427387904) : Ev (fun k => laws_wkGrid.f k g g) true := by
  refine Ev.congr (G := fun k => laws_wkGrid.l0 k g g 0) (fun k => by unfold laws_wkGrid.f; rw [if_pos rfl]) ?_
  refine downto (P := fun i => Ev (fun k => laws_wkGrid.l0 k g g (i : Int)) true) (n := g.length) ?_ ?_
  · refine Ev.step (G := fun _ => some true) (fun k => ?_) (Ev.ret _)
    simp only [laws_wkGrid.l0]
    rw [if_neg (by omega)]
  · intro i hi h
    refine Ev.step (G := fun k => (laws_wkInts.f k (rd_L5 g (i : Int)) (rd_L5 g (i : Int))).bind fun t103 => (if t103 = true then (laws_wkGrid.l0 k g g ((i + 1 : Nat) : Int)) else (some false))) (fun k => ?_) ?_
    · simp only [laws_wkGrid.l0]
      rw [if_pos (by omega), if_pos (by omega), if_pos (by omega), w64s (by omega)]
    · refine Ev.bind (wkInts_self _ ?_) (Ev.pos rfl h)
      rw [rdL5_at_ g i hi]
      exact hr _ (List.getElem_mem hi)
end Go.Proofs.Ytdlaaccnaokdnaa.M
set_option linter.unusedVariables false
namespace Go.Proofs.Ytdlaaccnaokdnaa.M
open Go.RowKit Go.Proofs.Ytdlaaccnaokdnaa.P Go.Proofs.YtdlaaccnaokdnaaV.PrintWords Go.Proofs.YtdlaaccnaokdnaaV.PrintMore
def rkOf (n : Int) (l : List S61) (o : List Int) : List Int × List (List Int) × List (List Int) := if netOkB n l = true ∧ Ord o n then (o, mat n.toNat (rkAll o (arcS l)).1, mat n.toNat (rkAll o (arcS l)).2) else ([], [], [])
theorem implRankOf_eq (n : Int) (l : List S61) (o : List Int) (ho : o.length ≤ 1048576) : impl_RankOf.f n l o = some (rkOf n l o) := by
  unfold impl_RankOf.f impl_NetOk.f rkOf
  rw [Option.bind_some]
  by_cases h1 : netOkB n l = true
  rotate_left
  · rw [if_neg h1, if_neg (fun h => h1 h.1)]
  rw [if_pos h1]
  unfold impl_permuted.f
  rw [if_pos ho, Option.bind_some]
  by_cases h2 : Ord o n
  rotate_left
  · rw [if_neg (by simp [h2]), if_neg (fun h => h2 h.2)]
  rw [if_pos (by simp [h2]), if_pos ⟨h1, h2⟩]
  unfold impl_rankOf.f
  rw [rkF_yes h1 h2, Option.bind_some]
theorem wkRank_self {o : List Int} {c v : List (List Int)} (ho : o.length ≤ 1048576) (hc : Few c) (hv : Few v) : Ev (fun k => laws_wkRank.f k o c v o c v) true := by
  refine Ev.congr (G := fun k => (laws_wkInts.f k o o).bind fun t103 => (if t103 = true then ((laws_wkGrid.f k c c).bind fun t104 => (if t104 = true then ((laws_wkGrid.f k v v).bind fun t105 => (some t105)) else (some false))) else (some false))) (fun k => by unfold laws_wkRank.f; rfl) ?_
  refine Ev.bind (wkInts_self o (by omega)) (Ev.pos rfl (Ev.bind (wkGrid_self c ?_ ?_) (Ev.pos rfl (Ev.bind (wkGrid_self v ?_ ?_) (Ev.ret _)))))
  · have := hc.1; omega
  · exact fun r hr => by have := hc.2 r hr; omega
  · have := hv.1; omega
  · exact fun r hr => by have := hv.2 r hr; omega
theorem rkOf_few (n : Int) (l : List S61) (o : List Int) (ho : o.length ≤ 1048576) : (rkOf n l o).1.length ≤ 1048576 ∧ Few (rkOf n l o).2.1 ∧ Few (rkOf n l o).2.2 := by
  unfold rkOf
  by_cases h : netOkB n l = true ∧ Ord o n
  · rw [if_pos h]
    obtain ⟨b1, b2, b3⟩ := rk_bounds h.1
    exact ⟨ho, few_mat (by omega) _, few_mat (by omega) _⟩
  · rw [if_neg h]
    exact ⟨by simp, ⟨by simp, by simp⟩, ⟨by simp, by simp⟩⟩
end Go.Proofs.Ytdlaaccnaokdnaa.M
set_option linter.unusedVariables false
namespace Go.Proofs.Ytdlaaccnaokdnaa.M
open Go.RowKit Go.Proofs.Ytdlaaccnaokdnaa.P Go.Proofs.YtdlaaccnaokdnaaV.PrintWords Go.Proofs.YtdlaaccnaokdnaaV.PrintMore

theorem xor_nonneg {x y : Int} (hx : 0 ≤ x) (hx1 : x < 2 ^ 62) (hy : 0 ≤ y) (hy1 : y < 2 ^ 62) : 0 ≤ Go.bits .xor .i64 x y := by
  obtain ⟨a, rfl⟩ := Int.eq_ofNat_of_zero_le hx
  obtain ⟨b, rfl⟩ := Int.eq_ofNat_of_zero_le hy
  have ha : a < 2 ^ 62 := by omega
  have hb : b < 2 ^ 62 := by omega
  have ha' : a % 2 ^ (IntKind.i64).bits = a := Nat.mod_eq_of_lt (Nat.lt_of_lt_of_le ha (by decide))
  have hb' : b % 2 ^ (IntKind.i64).bits = b := Nat.mod_eq_of_lt (Nat.lt_of_lt_of_le hb (by decide))
  have hlt := Nat.xor_lt_two_pow ha hb
  have e : Go.bits .xor .i64 (a : Int) (b : Int) = ((a ^^^ b : Nat) : Int) := by
    simp only [Go.bits, BitVec.ofInt_natCast, BitVec.toNat_xor, BitVec.toNat_ofNat, ha', hb']
    rw [IntKind.wrap_i64]
    omega
  rw [e]
  omega
/-- bytes, not too many -/
def Byt (b : List Int) : Prop := (∀ x ∈ b, 0 ≤ x ∧ x ≤ 255) ∧ b.length ≤ 1048576
theorem Byt.at_ {b : List Int} (h : Byt b) (i : Int) : 0 ≤ rd b i ∧ rd b i ≤ 255 := by
  unfold rd
  rw [List.getD_eq_getElem?_getD]
  cases e : b[i.toNat]? with
  | none => exact ⟨by decide, by decide⟩
  | some x => exact h.1 x (List.mem_of_getElem? e)
theorem tmod_in {x n : Int} (h0 : 0 ≤ x) (hn : 1 ≤ n) : 0 ≤ Int.tmod x n ∧ Int.tmod x n < n := ⟨Int.tmod_nonneg _ h0, Int.tmod_lt_of_pos _ (by omega)⟩
theorem pick_ev {b : List Int} {p : Int} (n : Int) (hb : Byt b) (h0 : 0 ≤ p) (h1 : p ≤ 1000000) : ∃ r, Ev (fun k => spec_l30Rd_pick.f k b p n) (r, p + 1) ∧ (n < 1 → r = 0) ∧ (1 ≤ n → 0 ≤ r ∧ r < n) := by
  have hw : wrap64 (p + 1) = p + 1 := w64 (by omega)
  by_cases hn : n < 1
  · refine ⟨0, ?_, fun _ => rfl, fun h => by omega⟩
    unfold spec_l30Rd_pick.f
    rw [hw]
    exact Ev.pos hn (Ev.step (G := fun _ => some (0, p + 1)) (fun k => by simp only [spec_l30Rd_pick.j0]; rw [if_pos trivial]) (Ev.ret _))
  · have hL := hb.2
    by_cases hl : b.length = 0
    · refine ⟨0, ?_, fun _ => rfl, fun h => by omega⟩
      unfold spec_l30Rd_pick.f
      rw [hw, hl]
      exact Ev.neg hn (Ev.step (G := fun _ => some (0, p + 1)) (fun k => by simp only [spec_l30Rd_pick.j0]; rw [if_pos (by simp)]) (Ev.ret _))
    · have hq : wrap64 (p + 1 - 1) = p := by rw [w64 (by omega)]; omega
      have hb0 : ((b.length : Int) == 0) = false := beq_eq_false_iff_ne.mpr (by omega)
      have key : ∃ y : Int, 0 ≤ y ∧ ∀ k, spec_l30Rd_pick.j0 (k + 1) n false b (p + 1) = some (Int.tmod y n, p + 1) := by
        by_cases hp : p < (b.length : Int)
        · have hr := hb.at_ p
          refine ⟨rd b p, hr.1, fun k => ?_⟩
          simp only [spec_l30Rd_pick.j0]
          rw [if_neg (by simp), hq, if_pos hp, if_pos h0, if_neg (by omega), w64 (by omega)]
        · have t1 := tmod_in (x := p) (n := (b.length : Int)) h0 (by omega)
          have e2 : wrap64 (wrap64 (p * 7) + 3) = p * 7 + 3 := by rw [w64 (n := p * 7) (by omega), w64 (by omega)]
          have t2 := tmod_in (x := p * 7 + 3) (n := (b.length : Int)) (by omega) (by omega)
          have u := hb.at_ (Int.tmod p (b.length : Int))
          have v := hb.at_ (Int.tmod (p * 7 + 3) (b.length : Int))
          have d0 := Int.tdiv_nonneg h0 (show (0 : Int) ≤ (b.length : Int) by omega)
          have d1 : Int.tdiv p (b.length : Int) ≤ p := Int.tdiv_le_self _ h0
          refine ⟨Go.bits .xor .i64 (rd b (Int.tmod p (b.length : Int)) * 131 + rd b (Int.tmod (p * 7 + 3) (b.length : Int)) * 1117 + p * 29 + Int.tdiv p (b.length : Int) * 53) (Int.tdiv (rd b (Int.tmod p (b.length : Int)) * 131 + rd b (Int.tmod (p * 7 + 3) (b.length : Int)) * 1117 + p * 29 + Int.tdiv p (b.length : Int) * 53) 64), ?_, fun k => ?_⟩
          · generalize rd b (Int.tmod p (b.length : Int)) = x at u
            generalize rd b (Int.tmod (p * 7 + 3) (b.length : Int)) = z at v
            generalize Int.tdiv p (b.length : Int) = d at d0 d1
            have hs : 0 ≤ x * 131 + z * 1117 + p * 29 + d * 53 ∧ x * 131 + z * 1117 + p * 29 + d * 53 < 2 ^ 62 := by omega
            generalize x * 131 + z * 1117 + p * 29 + d * 53 = s at hs
            have q0 := Int.tdiv_nonneg hs.1 (show (0 : Int) ≤ 64 by omega)
            have q1 : Int.tdiv s 64 ≤ s := Int.tdiv_le_self _ hs.1
            exact xor_nonneg hs.1 hs.2 q0 (by omega)
          · simp only [spec_l30Rd_pick.j0]
            rw [if_neg (by simp), hq, e2, if_neg hp, if_neg (by omega), if_pos t1.1, if_pos t1.2, if_pos t2.1, if_pos t2.2, if_neg (by omega)]
            generalize rd b (Int.tmod p (b.length : Int)) = x at u
            generalize rd b (Int.tmod (p * 7 + 3) (b.length : Int)) = z at v
            generalize Int.tdiv p (b.length : Int) = d at d0 d1
            rw [w64 (n := x) (by omega), w64 (n := x * 131) (by omega), w64 (n := z) (by omega), w64 (n := z * 1117) (by omega), w64 (n := x * 131 + z * 1117) (by omega), w64 (n := p * 29) (by omega), w64 (n := x * 131 + z * 1117 + p * 29) (by omega), w64 (n := d) (by omega), w64 (n := d * 53) (by omega), w64 (n := x * 131 + z * 1117 + p * 29 + d * 53) (by omega)]
            have hs : 0 ≤ x * 131 + z * 1117 + p * 29 + d * 53 ∧ x * 131 + z * 1117 + p * 29 + d * 53 < 2 ^ 62 := by omega
            generalize x * 131 + z * 1117 + p * 29 + d * 53 = s at hs
            have q0 := Int.tdiv_nonneg hs.1 (show (0 : Int) ≤ 64 by omega)
            have q1 : Int.tdiv s 64 ≤ s := Int.tdiv_le_self _ hs.1
            rw [w64 (n := Int.tdiv s 64) (by omega)]
      obtain ⟨y, hy, hk⟩ := key
      refine ⟨Int.tmod y n, ?_, fun h => by omega, fun h => tmod_in hy h⟩
      unfold spec_l30Rd_pick.f
      rw [hw, hb0]
      exact Ev.neg hn (Ev.step (G := fun _ => some (Int.tmod y n, p + 1)) hk (Ev.ret _))
theorem one_ev {b : List Int} {p : Int} (l : List Int) (hb : Byt b) (h0 : 0 ≤ p) (h1 : p ≤ 1000000) (hl : 1 ≤ l.length) : ∃ r, Ev (fun k => spec_l30Rd_one.f k b p l) (r, p + 1) ∧ r ∈ l := by
  obtain ⟨r, e, _, hr⟩ := pick_ev (b := b) (p := p) (l.length : Int) hb h0 h1
  obtain ⟨r0, r1⟩ := hr (by omega)
  refine ⟨rd l r, ?_, ?_⟩
  · unfold spec_l30Rd_one.f
    exact Ev.bind e (Ev.pos r0 (Ev.pos r1 (Ev.ret _)))
  · obtain ⟨i, rfl⟩ := Int.eq_ofNat_of_zero_le r0
    rw [rd_at0 l i (by omega)]
    exact List.getElem_mem _
theorem wf_u8 {x : Int} (h : (Lit.int .u8 x).wf = true) : 0 ≤ x ∧ x ≤ 255 := by
  unfold Lit.wf at h
  simp [IntKind.min, IntKind.max, IntKind.signed, IntKind.bits] at h
  exact h
theorem open_ev {c : List Int} (hl : c.length ≤ 1048576) (hw : ∀ x ∈ c, (Lit.int .u8 x).wf = true) : ∃ b, spec_l30Open.f c = some (b, 0) ∧ Byt b := by
  unfold spec_l30Open.f
  by_cases h : (c.length : Int) > 2000
  · rw [if_pos h, if_pos (by omega)]
    exact ⟨_, rfl, fun x hx => wf_u8 (hw x (List.mem_of_mem_take hx)), by rw [List.length_take]; omega⟩
  · rw [if_neg h]
    exact ⟨_, rfl, fun x hx => wf_u8 (hw x hx), hl⟩
end Go.Proofs.Ytdlaaccnaokdnaa.M
set_option linter.unusedVariables false
namespace Go.Proofs.Ytdlaaccnaokdnaa.M
open Go.RowKit Go.Proofs.Ytdlaaccnaokdnaa.P Go.Proofs.YtdlaaccnaokdnaaV.PrintWords Go.Proofs.YtdlaaccnaokdnaaV.PrintMore
theorem ord_ins {x : List Int} {i : Nat} (h : Ord x (i : Int)) (r : Nat) : Ord (x.take r ++ [(i : Int)] ++ x.drop r) ((i + 1 : Nat) : Int) := by
  have hp : (x.take r ++ [(i : Int)] ++ x.drop r).Perm ((i : Int) :: x) := by
    have h1 : (x.take r ++ [(i : Int)] ++ x.drop r).Perm ((i : Int) :: (x.take r ++ x.drop r)) := by
      rw [List.append_assoc]
      exact List.perm_middle
    rwa [List.take_append_drop] at h1
  obtain ⟨h1, h2, h3⟩ := h
  refine ⟨by rw [hp.length_eq, List.length_cons]; omega, hp.nodup_iff.2 (List.nodup_cons.2 ⟨fun hm => by have := h3 _ hm; omega, h2⟩), fun y hy => ?_⟩
  rcases List.mem_cons.1 (hp.mem_iff.1 hy) with rfl | hy
  · omega
  · have := h3 y hy; omega
theorem tmod_ne {x n : Int} (hn : 2 ≤ n) (h : 0 ≤ x ∧ x < n) : x ≠ Int.tmod (x + 1) n := by
  by_cases hx : x + 1 = n
  · rw [hx, Int.tmod_self]; omega
  · rw [Int.tmod_eq_emod_of_nonneg (by omega), Int.emod_eq_of_lt (by omega) (by omega)]; omega
theorem arc_ok {n a b c d e : Int} (hn : n ≤ 8) (ha : 0 ≤ a ∧ a < n) (hb : 0 ≤ b ∧ b < n) (hne : a ≠ b) (hc : 0 ≤ c ∧ c ≤ 99) (hd : 0 ≤ d ∧ d ≤ 99) (he : 0 ≤ e ∧ e ≤ 9) : badArc n (⟨a, b, c, d, e⟩ : S61) = false := by
  have hw : wrap64 (n - 1) = n - 1 := w64 (by omega)
  simp [badArc, inB, costB, loadB, hw]
  omega
theorem netOk_of {n : Int} {l : List S61} (h1 : 1 ≤ n ∧ n ≤ 8) (h2 : l.length ≤ 16) (h3 : ∀ x ∈ l, badArc n x = false) : netOkB n l = true := by
  simp only [netOkB, Bool.and_eq_true, Bool.not_eq_true', decide_eq_true_eq, List.any_eq_false]
  exact ⟨⟨h1, h2⟩, fun x hx => by rw [h3 x hx]; decide⟩
theorem l30Net_k0 {b : List Int} (hb : Byt b) {nodes : Int} (hn : 2 ≤ nodes ∧ nodes ≤ 6) : ∀ (m : Nat) (p : Int) (l : List S61), m ≤ 13 → 0 ≤ p → p + 6 * m ≤ 900000 → l.length + m ≤ 13 → (∀ x ∈ l, badArc nodes x = false) →
    ∃ (l' : List S61) (p' : Int), Ev (fun k => spec_l30Net.l0 k (m : Int) b p nodes l) (nodes, l', p') ∧ l'.length ≤ 13 ∧ (∀ x ∈ l', badArc nodes x = false) ∧ p ≤ p' ∧ p' ≤ p + 6 * m
  | 0, p, l, hm, h0, h1, hl, ha => by
    refine ⟨l, p, Ev.step (G := fun _ => some (nodes, l, p)) (fun k => ?_) (Ev.ret _), by omega, ha, Int.le_refl _, by omega⟩
    simp only [spec_l30Net.l0]
    rw [if_neg (by omega)]
  | m + 1, p, l, hm, h0, h1, hl, ha => by
    obtain ⟨r1, e1, _, b1⟩ := pick_ev (b := b) (p := p) nodes hb h0 (by omega)
    obtain ⟨r2, e2, _, b2⟩ := pick_ev (b := b) (p := p + 1) nodes hb (by omega) (by omega)
    obtain ⟨r3, e3, _, b3⟩ := pick_ev (b := b) (p := p + 1 + 1) 100 hb (by omega) (by omega)
    obtain ⟨r4, e4, b4⟩ := one_ev (b := b) (p := p + 1 + 1 + 1) [0, 1, 2, 5, 9, r3] hb (by omega) (by omega) (by simp)
    obtain ⟨r5, e5, b5⟩ := one_ev (b := b) (p := p + 1 + 1 + 1 + 1) [0, 0, 3, 8] hb (by omega) (by omega) (by simp)
    obtain ⟨r6, e6, _, b6⟩ := pick_ev (b := b) (p := p + 1 + 1 + 1 + 1 + 1) 10 hb (by omega) (by omega)
    have c1 := b1 (by omega)
    have c2 := b2 (by omega)
    have c3 := b3 (by omega)
    have c6 := b6 (by omega)
    simp only [List.mem_cons, List.not_mem_nil, or_false] at b4 b5
    have c4 : 0 ≤ r4 ∧ r4 ≤ 99 := by omega
    have c5 : 0 ≤ r5 ∧ r5 ≤ 8 := by omega
    have t := tmod_in (x := r2 + 1) (n := nodes) (by omega) (by omega)
    have hlt : l.length < 3518437208883 := by omega
    have hw : wrap64 (((m + 1 : Nat) : Int) - 1) = (m : Int) := by rw [w64 (by omega)]; omega
    have hw2 : wrap64 (r2 + 1) = r2 + 1 := w64 (by omega)
    have go : ∀ x : S61, badArc nodes x = false → ∃ (l' : List S61) (p' : Int), Ev (fun k => spec_l30Net.l0 k (m : Int) b (p + 1 + 1 + 1 + 1 + 1 + 1) nodes (l ++ [x])) (nodes, l', p') ∧ l'.length ≤ 13 ∧ (∀ x ∈ l', badArc nodes x = false) ∧ p ≤ p' ∧ p' ≤ p + 6 * ((m + 1 : Nat) : Int) := by
      intro x hx
      obtain ⟨l', p', f1, f2, f3, f4, f5⟩ := l30Net_k0 hb hn m (p + 1 + 1 + 1 + 1 + 1 + 1) (l ++ [x]) (by omega) (by omega) (by omega) (by simp; omega) (fun y hy => by
        rcases List.mem_append.1 hy with hy | hy
        · exact ha y hy
        · simp at hy; rw [hy]; exact hx)
      exact ⟨l', p', f1, f2, f3, by omega, by omega⟩
    by_cases he : r1 = r2
    · obtain ⟨l', p', f1, f2, f3, f4, f5⟩ := go ⟨r1, Int.tmod (r2 + 1) nodes, r4, r5, r6⟩ (arc_ok (by omega) (by omega) t (by rw [he]; exact tmod_ne (by omega) c2) c4 (by omega) (by omega))
      refine ⟨l', p', Ev.step (fun k => by simp only [spec_l30Net.l0]; rw [if_pos (by omega), hw]) ?_, f2, f3, f4, f5⟩
      refine Ev.bind e1 (Ev.bind e2 (Ev.bind e3 (Ev.bind e4 (Ev.bind e5 (Ev.bind e6 (Ev.pos he (Ev.neg (by omega) (Ev.pos hlt ?_))))))))
      simp only [hw2]
      exact f1
    · obtain ⟨l', p', f1, f2, f3, f4, f5⟩ := go ⟨r1, r2, r4, r5, r6⟩ (arc_ok (by omega) c1 c2 he c4 (by omega) (by omega))
      refine ⟨l', p', Ev.step (fun k => by simp only [spec_l30Net.l0]; rw [if_pos (by omega), hw]) ?_, f2, f3, f4, f5⟩
      exact Ev.bind e1 (Ev.bind e2 (Ev.bind e3 (Ev.bind e4 (Ev.bind e5 (Ev.bind e6 (Ev.neg he (Ev.pos hlt f1)))))))
theorem l30Net_ok {b : List Int} (hb : Byt b) {p : Int} (h0 : 0 ≤ p) (h1 : p ≤ 800000) : ∃ (n : Int) (l : List S61) (p' : Int), Ev (fun k => spec_l30Net.f k b p) (n, l, p') ∧ 2 ≤ n ∧ n ≤ 6 ∧ l.length ≤ 13 ∧ netOkB n l = true ∧ p ≤ p' ∧ p' ≤ p + 90 := by
  obtain ⟨r1, e1, _, b1⟩ := pick_ev (b := b) (p := p) 5 hb h0 (by omega)
  obtain ⟨r2, e2, _, b2⟩ := pick_ev (b := b) (p := p + 1) 14 hb (by omega) (by omega)
  have c1 := b1 (by omega)
  have c2 := b2 (by omega)
  obtain ⟨m, rfl⟩ := Int.eq_ofNat_of_zero_le c2.1
  have hw : wrap64 (2 + r1) = 2 + r1 := w64 (by omega)
  obtain ⟨l', p', f1, f2, f3, f4, f5⟩ := l30Net_k0 hb (nodes := 2 + r1) (by omega) m (p + 1 + 1) [] (by omega) (by omega) (by omega) (by simp; omega) (fun x hx => by cases hx)
  refine ⟨2 + r1, l', p', ?_, by omega, by omega, f2, netOk_of (by omega) (by omega) f3, by omega, by omega⟩
  unfold spec_l30Net.f
  refine Ev.bind e1 (Ev.bind e2 ?_)
  simp only [hw]
  exact f1
theorem order_ok {b : List Int} (hb : Byt b) {p : Int} (h0 : 0 ≤ p) (h1 : p ≤ 900000) {n : Int} (hn : 0 ≤ n ∧ n ≤ 9) : ∃ (o : List Int) (p' : Int), Ev (fun k => spec_l30Order.f k b p n) (o, p') ∧ Ord o n ∧ p ≤ p' ∧ p' ≤ p + 9 := by
  have key : ∀ (d i : Nat) (x : List Int) (q : Int), (i : Int) + d = n → Ord x (i : Int) → 0 ≤ q → q + d ≤ 900100 → ∃ (o : List Int) (p' : Int), Ev (fun k => spec_l30Order.l0 k n x (i : Int) b q) (o, p') ∧ Ord o n ∧ q ≤ p' ∧ p' ≤ q + d := by
    intro d
    induction d with
    | zero =>
      intro i x q hi hx h0 h1
      have hi2 : (i : Int) = n := by omega
      refine ⟨x, q, Ev.step (G := fun _ => some (x, q)) (fun k => ?_) (Ev.ret _), hi2 ▸ hx, by omega, by omega⟩
      simp only [spec_l30Order.l0]
      rw [if_neg (by omega)]
    | succ d ih =>
      intro i x q hi hO h0 h1
      have hx : x.length = i := by have := hO.1; omega
      have hw : wrap64 ((x.length : Int) + 1) = ((i + 1 : Nat) : Int) := by rw [hx]; unfold wrap64; omega
      obtain ⟨r, hr, _, hr2⟩ := pick_ev (b := b) (p := q) ((i + 1 : Nat) : Int) hb h0 (by omega)
      obtain ⟨r0, r1⟩ := hr2 (by omega)
      have hlen : (x.take r.toNat ++ [(i : Int)] ++ x.drop r.toNat).length = i + 1 := by simp; omega
      obtain ⟨o, p', h2, h3, h4, h5⟩ := ih (i + 1) (x.take r.toNat ++ [(i : Int)] ++ x.drop r.toNat) (q + 1) (by omega) (ord_ins hO r.toNat) (by omega) (by omega)
      refine ⟨o, p', ?_, h3, by omega, by omega⟩
      refine Ev.step (G := fun k => (spec_l30Rd_pick.f k b q ((i + 1 : Nat) : Int)).bind fun bt104 => (if 0 ≤ bt104.1 then (if bt104.1 ≤ (x.length : Int) then (if ([] : List Int).length + (x.take (bt104.1 : Int).toNat).length < 17592186044416 then (if (([] : List Int) ++ x.take (bt104.1 : Int).toNat).length < 17592186044416 then (if (([] : List Int) ++ x.take (bt104.1 : Int).toNat ++ [(i : Int)]).length + (x.drop (bt104.1 : Int).toNat).length < 17592186044416 then (spec_l30Order.l0 k n (([] : List Int) ++ x.take (bt104.1 : Int).toNat ++ [(i : Int)] ++ x.drop (bt104.1 : Int).toNat) (wrap64 ((i : Int) + 1)) b bt104.2) else none) else none) else none) else none) else none)) (fun k => ?_) ?_
      · simp only [spec_l30Order.l0, Option.bind_some]
        rw [if_pos (by omega), hw]
      · refine Ev.bind hr ?_
        refine Ev.congr (fun k => ?_) h2
        show (if 0 ≤ r then (if r ≤ (x.length : Int) then (if ([] : List Int).length + (x.take r.toNat).length < 17592186044416 then (if (([] : List Int) ++ x.take r.toNat).length < 17592186044416 then (if (([] : List Int) ++ x.take r.toNat ++ [(i : Int)]).length + (x.drop r.toNat).length < 17592186044416 then (spec_l30Order.l0 k n (([] : List Int) ++ x.take r.toNat ++ [(i : Int)] ++ x.drop r.toNat) (wrap64 ((i : Int) + 1)) b (q + 1)) else none) else none) else none) else none) else none) = _
        rw [if_pos r0, if_pos (by omega), if_pos (by simp; omega), if_pos (by simp; omega), if_pos (by simp; omega), List.nil_append, w64s (by omega)]
  obtain ⟨o, p', h2, h3, h4, h5⟩ := key n.toNat 0 [] p (by omega) ⟨rfl, List.nodup_nil, fun x hx => by cases hx⟩ h0 (by omega)
  exact ⟨o, p', h2, h3, h4, by omega⟩
theorem few_tput {G : List (List Int)} (h : Few G) {a b : Int} (h0 : 0 ≤ a) (h1 : a < G.length) (x : Int) : Few (tput G a b x) := by
  refine ⟨by unfold tput; rw [List.length_set]; exact h.1, fun r hr => ?_⟩
  unfold tput at hr
  rcases List.mem_or_eq_of_mem_set hr with hr | rfl
  · exact h.2 r hr
  · rw [List.length_set]
    obtain ⟨i, rfl⟩ := Int.eq_ofNat_of_zero_le h0
    have e : rd_L5 G (i : Int) = G[i]'(by omega) := by simp [rd_L5]; rw [List.getElem?_eq_getElem (by omega)]; rfl
    rw [e]
    exact h.2 _ (List.getElem_mem _)
/-- what spec.l30Rank draws -/
theorem l30Rank_ev {b : List Int} (hb : Byt b) : ∃ (n : Int) (l : List S61) (o : List Int) (C V : List (List Int)) (p : Int), Ev (fun k => spec_l30Rank.f k b 0) (n, l, o, C, V, p) ∧ netOkB n l = true ∧ l.length ≤ 13 ∧ o.length ≤ 9 ∧ Few C ∧ Few V ∧ 0 ≤ p ∧ p ≤ 1000 := by
  obtain ⟨n, l, p1, e1, n0, n1, l0, lk, p0, q0⟩ := l30Net_ok hb (p := 0) (by omega) (by omega)
  obtain ⟨o, p2, e2, oo, p3, q3⟩ := order_ok hb (p := p1) (by omega) (by omega) (n := n) (by omega)
  have e3 : spec_l8Make.f n l o = some (o, mat n.toNat (rkAll o (arcS l)).1, mat n.toNat (rkAll o (arcS l)).2) := rkF_yes lk oo
  obtain ⟨a, e4, _, ha⟩ := pick_ev (b := b) (p := p2) n hb (by omega) (by omega)
  obtain ⟨c, e5, _, hc⟩ := pick_ev (b := b) (p := p2 + 1) n hb (by omega) (by omega)
  obtain ⟨d, e6, _, _⟩ := pick_ev (b := b) (p := p2 + 1 + 1) 16 hb (by omega) (by omega)
  replace ha := ha (by omega)
  replace hc := hc (by omega)
  obtain ⟨N, rfl⟩ := Int.eq_ofNat_of_zero_le (show 0 ≤ n by omega)
  rw [Int.toNat_natCast] at e3
  have hol : o.length = N := by have := oo.1; omega
  have fC := few_mat (n := N) (by omega) (rkAll o (arcS l)).1
  have fV := few_mat (n := N) (by omega) (rkAll o (arcS l)).2
  have iC : inT (mat N (rkAll o (arcS l)).1) a c := ⟨ha.1, by rw [mat_len]; exact ha.2, hc.1, by rw [mat_row_len _ ha.1 ha.2]; exact hc.2⟩
  have iV : inT (mat N (rkAll o (arcS l)).2) a c := ⟨ha.1, by rw [mat_len]; exact ha.2, hc.1, by rw [mat_row_len _ ha.1 ha.2]; exact hc.2⟩
  have key : ∃ (o' : List Int) (C V : List (List Int)) (p : Int), Ev (fun k => l30Spoil k b (p2 + 1 + 1 + 1) o (mat N (rkAll o (arcS l)).1) (mat N (rkAll o (arcS l)).2) a c d) (o', C, V, p) ∧ o'.length ≤ 9 ∧ Few C ∧ Few V ∧ 0 ≤ p ∧ p ≤ 1000 := by
    unfold l30Spoil
    by_cases d0 : d = 0
    · obtain ⟨x, ex, _, _⟩ := pick_ev (b := b) (p := p2 + 1 + 1 + 1) 5 hb (by omega) (by omega)
      exact ⟨o, tput (mat N (rkAll o (arcS l)).1) a c x, _, _, Ev.pos d0 (Ev.pos iC (Ev.bind ex (Ev.ret _))), by omega, few_tput fC iC.1 iC.2.1 x, fV, by omega, by omega⟩
    by_cases d1 : d = 1
    · obtain ⟨x, ex, _⟩ := one_ev (b := b) (p := p2 + 1 + 1 + 1) [-1, 0, 9] hb (by omega) (by omega) (by simp)
      exact ⟨o, _, tput (mat N (rkAll o (arcS l)).2) a c x, _, Ev.neg d0 (Ev.pos d1 (Ev.pos iV (Ev.bind ex (Ev.ret _)))), by omega, fC, few_tput fV iV.1 iV.2.1 x, by omega, by omega⟩
    by_cases d2 : d = 2
    · exact ⟨o ++ [0], _, _, _, Ev.neg d0 (Ev.neg d1 (Ev.pos d2 (Ev.pos (by omega) (Ev.ret _)))), by simp; omega, fC, fV, by omega, by omega⟩
    · exact ⟨o, _, _, _, Ev.neg d0 (Ev.neg d1 (Ev.neg d2 (Ev.ret _))), by omega, fC, fV, by omega, by omega⟩
  obtain ⟨o', C, V, p, e7, h1, h2, h3, h4, h5⟩ := key
  refine ⟨N, l, o', C, V, p, ?_, lk, l0, h1, h2, h3, h4, h5⟩
  unfold spec_l30Rank.f
  exact Ev.bind e1 (Ev.bind e2 (Ev.bind (Ev.of fun _ => e3) (Ev.bind e4 (Ev.bind e5 (Ev.bind e6 (Ev.bind e7 (Ev.ret _)))))))
end Go.Proofs.Ytdlaaccnaokdnaa.M
set_option linter.unusedVariables false
namespace Go.Proofs.Ytdlaaccnaokdnaa.M
open Go.RowKit Go.Proofs.Ytdlaaccnaokdnaa.P Go.Proofs.YtdlaaccnaokdnaaV.PrintWords Go.Proofs.YtdlaaccnaokdnaaV.PrintMore

/-- the arcs with the costs cs, up to place i -/
def pricedTo (cs : List Int) (i : Nat) (l : List S61) : List S61 := l.mapIdx fun j x => if j < i then ⟨x.f0, x.f1, cs.getD j 0, x.f3, x.f4⟩ else x
/-- the arcs with the costs cs -/
def priced (cs : List Int) (l : List S61) : List S61 := l.mapIdx fun j x => ⟨x.f0, x.f1, cs.getD j 0, x.f3, x.f4⟩
theorem pricedTo_length (cs : List Int) (i : Nat) (l : List S61) : (pricedTo cs i l).length = l.length := by simp [pricedTo]
theorem priced_length (cs : List Int) (l : List S61) : (priced cs l).length = l.length := by simp [priced]
theorem pricedTo_zero (cs : List Int) (l : List S61) : pricedTo cs 0 l = l := by
  apply List.ext_getElem (by simp [pricedTo])
  intro j h1 h2
  simp [pricedTo]
theorem pricedTo_end (cs : List Int) (l : List S61) : pricedTo cs l.length l = priced cs l := by
  apply List.ext_getElem (by simp [pricedTo, priced])
  intro j h1 h2
  have : j < l.length := by simpa [pricedTo] using h1
  simp [pricedTo, priced, this]
theorem pricedTo_succ (cs : List Int) (i : Nat) (l : List S61) (hi : i < l.length) (hc : i < cs.length) :
    (pricedTo cs i l).set i ⟨(rd_T61 (pricedTo cs i l) (i : Int)).f0, (rd_T61 (pricedTo cs i l) (i : Int)).f1, rd cs (i : Int), (rd_T61 (pricedTo cs i l) (i : Int)).f3, (rd_T61 (pricedTo cs i l) (i : Int)).f4⟩ = pricedTo cs (i + 1) l := by
  have hx : rd_T61 (pricedTo cs i l) (i : Int) = l[i] := by
    rw [rd_T61_at _ i (by rw [pricedTo_length]; exact hi)]
    simp [pricedTo]
  have hr : rd cs (i : Int) = cs.getD i 0 := by simp [rd]
  rw [hx, hr]
  apply List.ext_getElem (by simp [pricedTo])
  intro j h1 h2
  rw [List.getElem_set]
  by_cases hj : i = j
  · subst hj
    simp [pricedTo]
  · rw [if_neg hj]
    simp only [pricedTo, List.getElem_mapIdx]
    by_cases hlt : j < i
    · rw [if_pos hlt, if_pos (by omega)]
    · rw [if_neg hlt, if_neg (by omega)]
theorem impl_priced_ev (n : Int) (l : List S61) (cs : List Int) (hl : l.length ≤ 1048576) (hc : cs.length = l.length) : Ev (fun k => impl_Net_priced.f k n l cs) (n, priced cs l) := by
  refine Ev.congr (G := fun k => impl_Net_priced.l0 k cs (cs.length : Int) 0 n l) (fun k => by
    unfold impl_Net_priced.f slices_Clone_Arc.f impl_Arc_108.f
    rw [if_pos (by omega)]
    rfl) ?_
  have hP := downto (P := fun i => Ev (fun k => impl_Net_priced.l0 k cs (cs.length : Int) (i : Int) n (pricedTo cs i l)) (n, priced cs l)) (n := l.length) ?_ ?_
  · simpa [pricedTo_zero] using hP
  · refine Ev.step (G := fun _ => some (n, priced cs l)) (fun k => ?_) (Ev.ret _)
    simp only [impl_Net_priced.l0]
    rw [if_neg (by omega), pricedTo_end]
  · intro i hi h
    refine Ev.step (fun k => ?_) h
    simp only [impl_Net_priced.l0]
    rw [if_pos (by omega), if_pos (by omega), if_pos (by omega), if_pos (by rw [pricedTo_length]; omega), w64s (by omega), Int.toNat_natCast, pricedTo_succ cs i l hi (by omega)]
theorem spec_l9Net_ev (n : Int) (l : List S61) (cs : List Int) (hl : l.length ≤ 1048576) (hc : cs.length = l.length) : Ev (fun k => spec_l9Net.f k n l cs) (n, priced cs l) := by
  refine Ev.congr (G := fun k => spec_l9Net.l0 k cs 0 n l) (fun k => by
    unfold spec_l9Net.f spec_l1Copy.f
    simp only [Option.bind_some]
    rw [if_pos (by simp; omega)]
    rfl) ?_
  have hP := downto (P := fun i => Ev (fun k => spec_l9Net.l0 k cs (i : Int) n (pricedTo cs i l)) (n, priced cs l)) (n := l.length) ?_ ?_
  · simpa [pricedTo_zero] using hP
  · refine Ev.step (G := fun _ => some (n, priced cs l)) (fun k => ?_) (Ev.ret _)
    simp only [spec_l9Net.l0]
    rw [if_neg (by rw [pricedTo_length]; omega), pricedTo_end]
  · intro i hi h
    refine Ev.step (fun k => ?_) h
    simp only [spec_l9Net.l0]
    rw [if_pos (by rw [pricedTo_length]; omega), if_pos (by omega), if_pos (by omega), w64s (by omega), Int.toNat_natCast, pricedTo_succ cs i l hi (by omega)]
/-- costs for each arc -/
def costsB (l : List S61) (cs : List Int) : Bool := decide (cs.length = l.length) && cs.all costB
def metricB (nodes : Int) (l : List S61) (cs : List Int) : Bool := netOkB nodes l && costsB l cs
theorem any_not_all (cs : List Int) : (!(cs.any fun n => !costB n)) = cs.all costB := by rw [List.all_eq_not_any_not]
theorem impl_metricOk_eq (nodes : Int) (l : List S61) (cs : List Int) : impl_metricOk.f nodes l cs = some (metricB nodes l cs) := by
  unfold impl_metricOk.f impl_NetOk.f contains_metricOk1.f metricB costsB
  simp only [Option.bind_some]
  by_cases h0 : netOkB nodes l = true
  · rw [if_pos h0, h0, Bool.true_and]
    by_cases h1 : cs.length = l.length
    · rw [if_pos (by omega), any_not_all]
      simp [h1]
    · rw [if_neg (by omega)]
      simp [h1]
  · rw [if_neg h0, Bool.eq_false_iff.2 h0, Bool.false_and]
theorem spec_l9Ok_ev (nodes : Int) (l : List S61) (cs : List Int) (hc : cs.length ≤ 1048576) : Ev (fun k => spec_l9Ok.f k nodes l cs) (costsB l cs) := by
  show Ev (fun k => spec_l9Ok.l0 k cs 0 nodes l) _
  refine downto (P := fun i => Ev (fun k => spec_l9Ok.l0 k cs (i : Int) nodes l) (decide (cs.length = l.length) && (cs.drop i).all costB)) (n := cs.length) ?_ ?_
  · refine Ev.step (G := fun _ => some (decide (cs.length = l.length) && (cs.drop cs.length).all costB)) (fun k => ?_) (Ev.ret _)
    simp only [spec_l9Ok.l0]
    rw [if_neg (by omega), List.drop_length]
    by_cases h : cs.length = l.length
    · simp [h]
    · simp [h]
      omega
  · intro i hi h
    rw [List.drop_eq_getElem_cons hi, List.all_cons]
    by_cases hb : costB cs[i] = true
    · rw [hb, Bool.true_and]
      refine Ev.step (fun k => ?_) h
      simp only [spec_l9Ok.l0]
      rw [if_pos (by omega), if_pos (by omega), rd_at0 _ i hi, l1In_cost, Option.bind_some, if_pos hb, w64s (by omega)]
    · refine Ev.step (G := fun _ => some false) (fun k => ?_) (by simpa [hb] using Ev.ret false)
      simp only [spec_l9Ok.l0]
      rw [if_pos (by omega), if_pos (by omega), rd_at0 _ i hi, l1In_cost, Option.bind_some, if_neg hb]
/-- what CostNet tells -/
def costNet (nodes : Int) (l : List S61) (cs : List Int) : Int × List S61 × Bool := if metricB nodes l cs = true then (nodes, priced cs l, true) else (0, [], false)
theorem metricB_length {nodes : Int} {l : List S61} {cs : List Int} (h : metricB nodes l cs = true) : cs.length = l.length := by
  simp only [metricB, costsB, Bool.and_eq_true, decide_eq_true_eq] at h
  exact h.2.1
theorem impl_CostNet_ev (n : Int) (l : List S61) (cs : List Int) (hl : l.length ≤ 1048576) : Ev (fun k => impl_CostNet.f k n l cs) (costNet n l cs) := by
  unfold impl_CostNet.f costNet
  simp only [impl_metricOk_eq, Option.bind_some]
  by_cases h : metricB n l cs = true
  · rw [if_pos h]
    exact Ev.pos h (Ev.bind (impl_priced_ev n l cs hl (metricB_length h)) (Ev.ret _))
  · rw [if_neg h]
    exact Ev.neg h (Ev.ret _)
theorem costNet_length (n : Int) (l : List S61) (cs : List Int) : (costNet n l cs).2.1.length ≤ l.length := by
  unfold costNet
  split
  · simp [priced_length]
  · simp
theorem costs_l0 {b : List Int} (hb : Byt b) (n : Int) {l : List S61} (hl : l.length ≤ 13) : ∀ (u i : Nat) (p : Int) (xs : List Int), i + u = l.length → 0 ≤ p → p + 2 * u ≤ 800000 → xs.length = i →
    ∃ (ys : List Int) (p' : Int), Ev (fun k => spec_l30Costs.l0 k xs (i : Int) b p n l) (ys, p') ∧ ys.length ≤ 14
  | 0, i, p, xs, hi, h0, h1, hx => by
    obtain ⟨c, e1, _⟩ := pick_ev (b := b) (p := p) 14 hb h0 (by omega)
    have hx2 : xs.length < 17592186044416 := by omega
    by_cases k0 : c = 0
    · obtain ⟨v, e2, _⟩ := pick_ev (b := b) (p := p + 1) 3 hb (by omega) (by omega)
      refine ⟨xs ++ [v], p + 1 + 1, ?_, by simp; omega⟩
      refine Ev.step (fun k => by simp only [spec_l30Costs.l0]; rw [if_neg (by omega)]) ?_
      exact Ev.bind e1 (Ev.pos k0 (Ev.bind e2 (Ev.pos hx2 (Ev.ret _))))
    · refine ⟨xs, p + 1, ?_, by omega⟩
      refine Ev.step (fun k => by simp only [spec_l30Costs.l0]; rw [if_neg (by omega)]) ?_
      exact Ev.bind e1 (Ev.neg k0 (Ev.ret _))
  | u + 1, i, p, xs, hi, h0, h1, hx => by
    obtain ⟨c, e1, _⟩ := pick_ev (b := b) (p := p) 3 hb h0 (by omega)
    have hx2 : xs.length < 17592186044416 := by omega
    by_cases k0 : c = 0
    · obtain ⟨v, e2, _⟩ := one_ev (b := b) (p := p + 1) [0, 1, 7, 99] hb (by omega) (by omega) (by simp)
      obtain ⟨ys, p', f1, f2⟩ := costs_l0 hb n hl u (i + 1) (p + 1 + 1) (xs ++ [v]) (by omega) (by omega) (by omega) (by simp; omega)
      refine ⟨ys, p', ?_, f2⟩
      refine Ev.step (fun k => by simp only [spec_l30Costs.l0]; rw [if_pos (by omega), if_pos (by omega), w64s (by omega)]) ?_
      exact Ev.bind e1 (Ev.pos k0 (Ev.bind e2 (Ev.pos hx2 f1)))
    · obtain ⟨ys, p', f1, f2⟩ := costs_l0 hb n hl u (i + 1) (p + 1) (xs ++ [(rd_T61 l (i : Int)).f2]) (by omega) (by omega) (by omega) (by simp; omega)
      refine ⟨ys, p', ?_, f2⟩
      refine Ev.step (fun k => by simp only [spec_l30Costs.l0]; rw [if_pos (by omega), if_pos (by omega), w64s (by omega)]) ?_
      exact Ev.bind e1 (Ev.neg k0 (Ev.pos hx2 f1))
theorem netOk_priced {n : Int} {l : List S61} {cs : List Int} (h : metricB n l cs = true) : netOkB n (priced cs l) = true := by
  have hcl := metricB_length h
  simp only [metricB, costsB, Bool.and_eq_true, decide_eq_true_eq, List.all_eq_true] at h
  obtain ⟨h1, _, h2⟩ := h
  simp only [netOkB, Bool.and_eq_true, Bool.not_eq_true', decide_eq_true_eq, List.any_eq_false, priced_length] at h1 ⊢
  refine ⟨h1.1, fun x hx => ?_⟩
  obtain ⟨i, hi, rfl⟩ := List.getElem_of_mem hx
  rw [priced_length] at hi
  have hb := h1.2 _ (List.getElem_mem hi)
  have hc := h2 _ (List.getElem_mem (show i < cs.length by omega))
  have he : (priced cs l)[i]'(by rw [priced_length]; exact hi) = ⟨l[i].f0, l[i].f1, cs[i], l[i].f3, l[i].f4⟩ := by
    simp [priced, hcl, hi]
  rw [he]
  unfold badArc at hb ⊢
  simp only [hc]
  simp only [Bool.not_true, Bool.or_false]
  intro hx
  apply hb
  simp only [Bool.or_eq_true] at hx ⊢
  rcases hx with (hx | hx) | hx
  · exact .inl (.inl (.inl hx))
  · exact .inl (.inr hx)
  · exact .inr hx
theorem priced_back {l : List S61} {cs : List Int} : priced (l.map (·.f2)) (priced cs l) = l := by
  apply List.ext_getElem (by simp [priced_length])
  intro i h1 h2
  simp [priced, h2]
end Go.Proofs.Ytdlaaccnaokdnaa.M
set_option linter.unusedVariables false
namespace Go.Proofs.Ytdlaaccnaokdnaa.M
open Go.RowKit Go.Proofs.Ytdlaaccnaokdnaa.P Go.Proofs.YtdlaaccnaokdnaaV.PrintWords Go.Proofs.YtdlaaccnaokdnaaV.PrintMore
/-- 0 where two tables differ, else -1 -/
def dF (F' F : Int → Int → Int) (a b : Int) : Int := if F' a b = F a b then -1 else 0
theorem dF_self (F : Int → Int → Int) (n : Nat) : ∀ i, cntA (dF F F) n i = 0
  | 0 => rfl
  | i + 1 => by
    have : ∀ j, cntR (dF F F) (i : Int) j = 0 := fun j => by
      induction j with
      | zero => rfl
      | succ j ih => rw [cntR_succ, ih, if_neg (by simp [dF])]; rfl
    unfold cntA
    rw [dF_self F n i, this]; rfl
theorem specCo_ev (n : Nat) (hn : n ≤ 8) (F' F : Int → Int → Int) (l : List S61) (o o' : List Int) (v v' : List (List Int)) : Ev (fun k => spec_CostRank.l0 k 0 0 (n : Int) l o (mat n F) v o' (mat n F') v') (o', mat n F', v', cntA (dF F' F) n n) := by
  refine downto (P := fun i => Ev (fun k => spec_CostRank.l0 k (cntA (dF F' F) n i) (i : Int) (n : Int) l o (mat n F) v o' (mat n F') v') (o', mat n F', v', cntA (dF F' F) n n)) (n := n) ?_ ?_
  · exact Ev.step (fun k => by simp only [spec_CostRank.l0]; rw [if_neg (by omega)]) (Ev.ret _)
  · intro i hi h
    refine Ev.step (fun k => by simp only [spec_CostRank.l0]; rw [if_pos (by omega)]) ?_
    have h1 := cntA_le (dF F' F) n hn i
    have key : cntA (dF F' F) n i = cntA (dF F' F) n i + cntR (dF F' F) (i : Int) 0 := by simp [cntR]
    rw [key]
    refine downto (P := fun j => Ev (fun k => spec_CostRank.l1 k (cntA (dF F' F) n i + cntR (dF F' F) (i : Int) j) (i : Int) (j : Int) (n : Int) l o (mat n F) v o' (mat n F') v') (o', mat n F', v', cntA (dF F' F) n n)) (n := n) ?_ ?_
    · refine Ev.step (fun k => ?_) h
      simp only [spec_CostRank.l1]
      rw [if_neg (by omega), w64s (by omega)]
      rfl
    · intro j hj h2
      refine Ev.step (fun k => ?_) h2
      have h3 := cntR_le (dF F' F) (i : Int) j
      simp only [spec_CostRank.l1]
      rw [if_pos (by omega), if_pos (by omega), mat_len, if_pos (by omega), if_pos (by omega), mat_row_len F' (by omega) (by omega), if_pos (by omega), mat_len, if_pos (by omega), mat_row_len F (by omega) (by omega), if_pos (by omega), rd_mat2 F' (by omega) (by omega) (by omega) (by omega), rd_mat2 F (by omega) (by omega) (by omega) (by omega), w64s (n := j) (by omega)]
      rw [cntR_succ]
      by_cases hc : F' (i : Int) (j : Int) = F (i : Int) (j : Int)
      · rw [if_pos hc, if_neg (by simp [dF, hc]), Int.add_zero]
      · rw [if_neg hc, if_pos (by simp [dF, hc]), show wrap64 (cntA (dF F' F) n i + cntR (dF F' F) (i : Int) j + 1) = cntA (dF F' F) n i + (cntR (dF F' F) (i : Int) j + 1) from by unfold wrap64; omega]
theorem implCo_ev (n : Nat) (hn : n ≤ 8) (F' F : Int → Int → Int) (o o' : List Int) (v v' : List (List Int)) : Ev (fun k => impl_CostRank.l0 k 0 (mat n F') ((mat n F').length : Int) 0 o (mat n F) v o' (mat n F') v') (o', mat n F', v', cntA (dF F' F) n n) := by
  rw [mat_len]
  refine downto (P := fun i => Ev (fun k => impl_CostRank.l0 k (cntA (dF F' F) n i) (mat n F') (n : Int) (i : Int) o (mat n F) v o' (mat n F') v') (o', mat n F', v', cntA (dF F' F) n n)) (n := n) ?_ ?_
  · exact Ev.step (fun k => by simp only [impl_CostRank.l0]; rw [if_neg (by omega)]) (Ev.ret _)
  · intro i hi h
    refine Ev.step (fun k => by simp only [impl_CostRank.l0]; rw [if_pos (by omega), if_pos (by omega), mat_len, if_pos (by omega)]) ?_
    rw [rd_mat F' (by omega) (by omega), rowF_len]
    have h1 := cntA_le (dF F' F) n hn i
    have key : cntA (dF F' F) n i = cntA (dF F' F) n i + cntR (dF F' F) (i : Int) 0 := by simp [cntR]
    rw [key]
    refine downto (P := fun j => Ev (fun k => impl_CostRank.l1 k (cntA (dF F' F) n i + cntR (dF F' F) (i : Int) j) (i : Int) (mat n F') (n : Int) (i : Int) (rowF n (F' (i : Int))) (n : Int) (j : Int) o (mat n F) v o' (mat n F') v') (o', mat n F', v', cntA (dF F' F) n n)) (n := n) ?_ ?_
    · refine Ev.step (fun k => ?_) h
      simp only [impl_CostRank.l1]
      rw [if_neg (by omega), w64s (by omega)]
      rfl
    · intro j hj h2
      refine Ev.step (fun k => ?_) h2
      have h3 := cntR_le (dF F' F) (i : Int) j
      simp only [impl_CostRank.l1]
      rw [if_pos (by omega), if_pos (by omega), rowF_len, if_pos (by omega), if_pos (by omega), mat_len, if_pos (by omega), mat_row_len F (by omega) (by omega), if_pos (by omega), rd_rowF _ (by omega) (by omega), rd_mat2 F (by omega) (by omega) (by omega) (by omega), w64s (n := j) (by omega)]
      rw [cntR_succ]
      by_cases hc : F' (i : Int) (j : Int) = F (i : Int) (j : Int)
      · rw [if_pos hc, if_neg (by simp [dF, hc]), Int.add_zero]
      · rw [if_neg hc, if_pos (by simp [dF, hc]), show wrap64 (cntA (dF F' F) n i + cntR (dF F' F) (i : Int) j + 1) = cntA (dF F' F) n i + (cntR (dF F' F) (i : Int) j + 1) from by unfold wrap64; omega]
/-- what CostRank tells -/
def coRk (n : Int) (l : List S61) (o : List Int) (c v : List (List Int)) (cs : List Int) : List Int × List (List Int) × List (List Int) × Int :=
  if RkOk n l o c v ∧ metricB n l cs = true then (o, mat n.toNat (rkAll o (arcS (priced cs l))).1, mat n.toNat (rkAll o (arcS (priced cs l))).2, cntA (dF (rkAll o (arcS (priced cs l))).1 (rkAll o (arcS l)).1) n.toNat n.toNat) else ([], [], [], -1)
theorem specCoRk_ev (n : Int) (l : List S61) (o : List Int) (c v : List (List Int)) (cs : List Int) (hl : l.length ≤ 1048576) (ho : o.length ≤ 1048576) (hcs : cs.length ≤ 1048576) : Ev (fun k => spec_CostRank.f k n l o c v cs) (coRk n l o c v cs) := by
  refine Ev.congr (G := fun k => (spec_RankOk.f k n l o c v).bind fun t104 => (if t104 = true then ((spec_l9Ok.f k n l cs).bind fun t105 => (spec_CostRank.j0 k cs (!t105) n l o c v)) else (spec_CostRank.j0 k cs true n l o c v))) (fun k => by unfold spec_CostRank.f; rfl) ?_
  refine Ev.bind (specRankOk_ev n l o c v hl ho) ?_
  have hno : Ev (fun k => spec_CostRank.j0 k cs true n l o c v) ([], [], [], -1) := Ev.step (fun k => by simp only [spec_CostRank.j0, if_true]) (Ev.ret _)
  unfold coRk
  by_cases h : RkOk n l o c v
  rotate_left
  · rw [if_neg (fun h2 : RkOk n l o c v ∧ _ => h h2.1)]
    exact Ev.neg (by simp [h]) hno
  refine Ev.pos (by simp [h]) (Ev.bind (spec_l9Ok_ev n l cs hcs) ?_)
  have hm : metricB n l cs = costsB l cs := by simp [metricB, h.1]
  by_cases hc : costsB l cs = true
  rotate_left
  · rw [if_neg (fun h2 : RkOk n l o c v ∧ _ => hc (hm ▸ h2.2)), show (!costsB l cs) = true by simp [hc]]
    exact hno
  have hmm : metricB n l cs = true := hm.trans hc
  rw [if_pos ⟨h, hmm⟩, hc]
  have hk := netOk_priced hmm
  obtain ⟨h1, h2, h3, h4⟩ := h
  obtain ⟨b1, b2, b3⟩ := rk_bounds h1
  refine Ev.step (G := fun k => (spec_l9Net.f k n l cs).bind fun bt106 => ((spec_l8Make.f bt106.1 bt106.2 o).bind fun bt110 => (spec_CostRank.l0 k 0 0 n l o c v bt110.1 bt110.2.1 bt110.2.2))) (fun k => by simp only [spec_CostRank.j0]; simp) ?_
  refine Ev.bind (spec_l9Net_ev n l cs hl (metricB_length hmm)) (Ev.bind (Ev.of fun _ => rkF_yes hk h2) ?_)
  have := specCo_ev n.toNat (by omega) (rkAll o (arcS (priced cs l))).1 (rkAll o (arcS l)).1 l o o v (mat n.toNat (rkAll o (arcS (priced cs l))).2)
  rw [← h3, Int.toNat_of_nonneg (by omega)] at this
  exact this
theorem implCoRk_ev (n : Int) (l : List S61) (o : List Int) (c v : List (List Int)) (cs : List Int) (hl : l.length ≤ 1048576) (ho : o.length ≤ 1048576) (hc : Few c) (hv : Few v) : Ev (fun k => impl_CostRank.f k n l o c v cs) (coRk n l o c v cs) := by
  refine Ev.congr (G := fun k => (impl_RankOk.f k n l o c v).bind fun t104 => (if t104 = true then ((impl_metricOk.f n l cs).bind fun t105 => (impl_CostRank.j0 k cs (!t105) n l o c v)) else (impl_CostRank.j0 k cs true n l o c v))) (fun k => by unfold impl_CostRank.f; rfl) ?_
  refine Ev.bind (implRankOk_ev n l o c v ho hc hv) ?_
  have hno : Ev (fun k => impl_CostRank.j0 k cs true n l o c v) ([], [], [], -1) := Ev.step (fun k => by simp only [impl_CostRank.j0, if_true]) (Ev.ret _)
  unfold coRk
  by_cases h : RkOk n l o c v
  rotate_left
  · rw [if_neg (fun h2 : RkOk n l o c v ∧ _ => h h2.1)]
    exact Ev.neg (by simp [h]) hno
  refine Ev.pos (by simp [h]) ?_
  rw [impl_metricOk_eq]
  simp only [Option.bind_some]
  by_cases hmm : metricB n l cs = true
  rotate_left
  · rw [if_neg (fun h2 : RkOk n l o c v ∧ _ => hmm h2.2), show (!metricB n l cs) = true by simp [hmm]]
    exact hno
  rw [if_pos ⟨h, hmm⟩, hmm]
  have hk := netOk_priced hmm
  obtain ⟨h1, h2, h3, h4⟩ := h
  obtain ⟨b1, b2, b3⟩ := rk_bounds h1
  refine Ev.step (G := fun k => (impl_Net_priced.f k n l cs).bind fun bt106 => ((impl_rankOf.f bt106.1 bt106.2 o).bind fun bt110 => (impl_CostRank.l0 k 0 bt110.2.1 (bt110.2.1.length : Int) 0 o c v bt110.1 bt110.2.1 bt110.2.2))) (fun k => by simp only [impl_CostRank.j0]; simp) ?_
  refine Ev.bind (impl_priced_ev n l cs hl (metricB_length hmm)) (Ev.bind (Ev.of fun _ => rkF_yes hk h2) ?_)
  have := implCo_ev n.toNat (by omega) (rkAll o (arcS (priced cs l))).1 (rkAll o (arcS l)).1 o o v (mat n.toNat (rkAll o (arcS (priced cs l))).2)
  rw [← h3] at this
  exact this
end Go.Proofs.Ytdlaaccnaokdnaa.M
set_option linter.unusedVariables false
namespace Go.Proofs.Ytdlaaccnaokdnaa.Pure
open Go.RowKit Go.Proofs.Ytdlaaccnaokdnaa.P Go.Proofs.Ytdlaaccnaokdnaa.M
open Go.Proofs.YtdlaaccnaokdnaaV.PrintWords (rd)
theorem priced_own (l : List S61) : priced (l.map (·.f2)) l = l := by
  apply List.ext_getElem (by simp [priced_length])
  intro i h1 h2
  simp [priced, h2]
theorem metric_own {n : Int} {l : List S61} (h : netOkB n l = true) : metricB n l (l.map (·.f2)) = true := by
  simp only [metricB, costsB, Bool.and_eq_true, decide_eq_true_eq, List.all_eq_true]
  refine ⟨h, by simp, fun x hx => ?_⟩
  obtain ⟨y, hy, rfl⟩ := List.mem_map.1 hx
  obtain ⟨_, _, _, _, _, c0, c1⟩ := rk_arc h hy
  simp [costB]
  exact ⟨c0, c1⟩
theorem FnCostRank : laws_FnCostRank.Pure := by
  intro c _ hl hw
  by_cases hC : (c.length : Int) > 1048576
  · exact ⟨0, by unfold laws_FnCostRank.f; rw [if_pos hC]⟩
  apply Ev.get
  unfold laws_FnCostRank.f
  refine Ev.neg hC ?_
  obtain ⟨t, e0, hb⟩ := open_ev (by omega) hw
  obtain ⟨n, l, o, C, V, p, e1, hok, hll, hol, fC, fV, p0, p1⟩ := l30Rank_ev hb
  obtain ⟨cs, p', e2, y0⟩ := costs_l0 hb n hll l.length 0 p [] (by omega) (by omega) (by omega) rfl
  have hd : Ev (fun k => spec_DrawCostRank.f k c) (n, l, o, C, V, cs) := by
    unfold spec_DrawCostRank.f
    rw [e0]
    simp only [Option.bind_some]
    exact Ev.bind e1 (Ev.bind (by unfold spec_l30Costs.f; exact e2) (Ev.ret _))
  obtain ⟨b1, b2, b3⟩ := rk_bounds hok
  have hs := specCoRk_ev n l o C V cs (by omega) (by omega) (by omega)
  have hi := implCoRk_ev n l o C V cs (by omega) (by omega) fC fV
  by_cases h : RkOk n l o C V ∧ metricB n l cs = true
  rotate_left
  · have e : coRk n l o C V cs = ([], [], [], -1) := if_neg h
    rw [e] at hs hi
    have f0 : Few [] := ⟨by simp, fun r hr => by cases hr⟩
    have hwk := wkRank_self (o := []) (c := []) (v := []) (by simp) f0 f0
    refine Ev.bind hd (Ev.bind hi (Ev.bind hs (Ev.pos rfl (Ev.bind hwk (Ev.pos rfl ?_)))))
    refine Ev.step (G := fun k => (laws_wkRank.f k [] [] [] [] [] []).bind fun t142 => (some t142)) (fun k => by simp only [laws_FnCostRank.j0]; rw [if_pos (by decide)]; rfl) ?_
    exact Ev.bind hwk (Ev.ret _)
  have e : coRk n l o C V cs = (o, mat n.toNat (rkAll o (arcS (priced cs l))).1, mat n.toNat (rkAll o (arcS (priced cs l))).2, cntA (dF (rkAll o (arcS (priced cs l))).1 (rkAll o (arcS l)).1) n.toNat n.toNat) := if_pos h
  obtain ⟨h, hm⟩ := h
  have hcnt := cntA_le (dF (rkAll o (arcS (priced cs l))).1 (rkAll o (arcS l)).1) n.toNat (by omega) n.toNat
  have hpk := netOk_priced hm
  have hR : impl_RankOf.f n (priced cs l) o = some (rkOf n (priced cs l) o) := implRankOf_eq n (priced cs l) o (by omega)
  have eR : rkOf n (priced cs l) o = (o, mat n.toNat (rkAll o (arcS (priced cs l))).1, mat n.toNat (rkAll o (arcS (priced cs l))).2) := if_pos ⟨hpk, h.2.1⟩
  have hown := implCoRk_ev n l o C V (l.map (·.f2)) (by omega) (by omega) fC fV
  have eown : coRk n l o C V (l.map (·.f2)) = (o, C, V, 0) := by
    unfold coRk
    rw [if_pos ⟨h, metric_own hok⟩, priced_own, dF_self, ← h.2.2.1, ← h.2.2.2]
  have hnet := impl_CostNet_ev n l cs (by omega)
  have enet : costNet n l cs = (n, priced cs l, true) := if_pos hm
  have g1 := few_mat (n := n.toNat) (by omega) (rkAll o (arcS (priced cs l))).1
  have g2 := few_mat (n := n.toNat) (by omega) (rkAll o (arcS (priced cs l))).2
  rw [eR] at hR
  rw [eown] at hown
  rw [enet] at hnet
  rw [e] at hs hi
  generalize mat n.toNat (rkAll o (arcS (priced cs l))).1 = C1 at *
  generalize mat n.toNat (rkAll o (arcS (priced cs l))).2 = V1 at *
  generalize cntA (dF (rkAll o (arcS (priced cs l))).1 (rkAll o (arcS l)).1) n.toNat n.toNat = D at *
  have hwk := wkRank_self (o := o) (by omega) g1 g2
  have hwk2 := wkRank_self (o := o) (by omega) fC fV
  refine Ev.bind hd (Ev.bind hi (Ev.bind hs (Ev.pos rfl (Ev.bind hwk (Ev.pos rfl ?_)))))
  refine Ev.step (G := fun k => (impl_CostNet.f k n l cs).bind fun bt143 => (laws_FnCostRank.l0 k (([] : List Int)) 0 n l o C V o C1 V1 bt143.1 bt143.2.1)) (fun k => by simp only [laws_FnCostRank.j0]; rw [if_neg (by simp; omega)]) ?_
  refine Ev.bind hnet ?_
  refine downto (P := fun i => Ev (fun k => laws_FnCostRank.l0 k ((l.map (·.f2)).take i) (i : Int) n l o C V o C1 V1 n (priced cs l)) true) (n := l.length) ?_ ?_
  · refine Ev.step (G := fun k => (impl_CostRank.f k n l o C V (l.map (·.f2))).bind fun bt156 => ((impl_RankOf.f n (priced cs l) o).bind fun bt167 => ((laws_wkRank.f k o C1 V1 bt167.1 bt167.2.1 bt167.2.2).bind fun t176 => (if t176 = true then (if bt156.2.2.2 = 0 then ((laws_wkRank.f k bt156.1 bt156.2.1 bt156.2.2.1 o C V).bind fun t177 => (some t177)) else (some false)) else (some false))))) (fun k => by simp only [laws_FnCostRank.l0]; rw [if_neg (by omega), show (l.map (·.f2)).take l.length = l.map (·.f2) from by rw [List.take_of_length_le (by simp)]]) ?_
    exact Ev.bind hown (Ev.bind (Ev.of fun _ => hR) (Ev.bind hwk (Ev.pos rfl (Ev.pos rfl (Ev.bind hwk2 (Ev.ret _))))))
  · intro i hi2 hnx
    refine Ev.step (fun k => ?_) hnx
    simp only [laws_FnCostRank.l0]
    rw [if_pos (by omega), if_pos (by omega), if_pos (by simp; omega), rd_T61_at l i hi2, w64s (by omega), List.take_succ_eq_append_getElem (by simpa using hi2), List.getElem_map]
end Go.Proofs.Ytdlaaccnaokdnaa.Pure
