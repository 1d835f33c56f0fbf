/- The laws' own tests of likeness, of a thing with itself; RankArc on both sides: an arc of a hierarchy as arcs of the net, and what these cost; RankArc: what both sides tell; What is drawn: each draw ends, and what it tells lies within bounds; A drawn net is ok, a drawn order is one; what the laws of a rank draw; FnRankArc is true of every code. -/
import Derived.Test.YtdlaaccnaokdnaaMEv
import Derived.Test.YtdlaaccnaokdnaaGWk
import Derived.Test.YtdlaaccnaokdnaaMRankK
import Derived.Test.YtdlaaccnaokdnaaMRankU
import Derived.Test.YtdlaaccnaokdnaaHUnp
import Derived.Test.YtdlaaccnaokdnaaPFSpecL8Plain
import Derived.Test.YtdlaaccnaokdnaaPFImplRankarc
import Derived.Test.YtdlaaccnaokdnaaPFSpecRankarc
import Derived.Test.YtdlaaccnaokdnaaPFSpecL30RdPick
import Derived.Test.YtdlaaccnaokdnaaGOpen
import Derived.Laws.Bits64
import Derived.Test.YtdlaaccnaokdnaaHL30R
import Derived.Test.YtdlaaccnaokdnaaPFLawsFnrankarc
set_option linter.unusedVariables false
namespace Go.Proofs.Ytdlaaccnaokdnaa.M
open Go.RowKit Go.Proofs.Ytdlaaccnaokdnaa.P Go.Proofs.YtdlaaccnaokdnaaV.PrintWords Go.Proofs.YtdlaaccnaokdnaaV.PrintMore

theorem rdL5_at_ (T : List (List Int)) (i : Nat) (hi : i < T.length) : rd_L5 T (i : Int) = T[i] := by
  simp [rd_L5, List.getD, hi]
theorem wkInts_self (l : List Int) (hl : l.length ≤ 4611686018427387904) : Ev (fun k => laws_wkInts.f k l l) true := by
  refine Ev.congr (G := fun k => laws_wkInts.l0 k l l 0) (fun k => by unfold laws_wkInts.f; rw [if_pos rfl]) ?_
  refine downto (P := fun i => Ev (fun k => laws_wkInts.l0 k l l (i : Int)) true) (n := l.length) ?_ ?_
  · refine Ev.step (G := fun _ => some true) (fun k => ?_) (Ev.ret _)
    simp only [laws_wkInts.l0]
    rw [if_neg (by omega)]
  · intro i hi h
    refine Ev.step (fun k => ?_) h
    simp only [laws_wkInts.l0, if_true]
    rw [if_pos (by omega), if_pos (by omega), if_pos (by omega), w64s (by omega)]
theorem wkGrid_self (g : List (List Int)) (hg : g.length ≤ 4611686018427387904) (hr : ∀ r ∈ g, r.length ≤ 4611686018427387904) : Ev (fun k => laws_wkGrid.f k g g) true := by
  refine Ev.congr (G := fun k => laws_wkGrid.l0 k g g 0) (fun k => by unfold laws_wkGrid.f; rw [if_pos rfl]) ?_
  refine downto (P := fun i => Ev (fun k => laws_wkGrid.l0 k g g (i : Int)) true) (n := g.length) ?_ ?_
  · refine Ev.step (G := fun _ => some true) (fun k => ?_) (Ev.ret _)
    simp only [laws_wkGrid.l0]
    rw [if_neg (by omega)]
  · intro i hi h
    refine Ev.step (G := fun k => (laws_wkInts.f k (rd_L5 g (i : Int)) (rd_L5 g (i : Int))).bind fun t103 => (if t103 = true then (laws_wkGrid.l0 k g g ((i + 1 : Nat) : Int)) else (some false))) (fun k => ?_) ?_
    · simp only [laws_wkGrid.l0]
      rw [if_pos (by omega), if_pos (by omega), if_pos (by omega), w64s (by omega)]
    · refine Ev.bind (wkInts_self _ ?_) (Ev.pos rfl h)
      rw [rdL5_at_ g i hi]
      exact hr _ (List.getElem_mem hi)
end Go.Proofs.Ytdlaaccnaokdnaa.M
set_option linter.unusedVariables false
namespace Go.Proofs.Ytdlaaccnaokdnaa.M
open Go.RowKit Go.Proofs.Ytdlaaccnaokdnaa.P Go.Proofs.YtdlaaccnaokdnaaV.PrintWords Go.Proofs.YtdlaaccnaokdnaaV.PrintMore
theorem bf_idx {o : List Int} (hn : o.Nodup) {x y : Int} (h : Bf o x y) : o.idxOf x < o.idxOf y := by
  have hne := h.ne hn
  obtain ⟨p, q, rfl, hy⟩ := h
  have h1 := List.nodup_append.1 hn
  have hx : x ∉ p := fun hx => h1.2.2 x hx x (by simp) rfl
  have hyp : y ∉ p := fun hp => h1.2.2 y hp y (by simp [hy]) rfl
  rw [List.idxOf_append, List.idxOf_append, if_neg hx, if_neg hyp, List.idxOf_cons_self]
  have e : List.idxOf y (x :: q) = List.idxOf y q + 1 := by rw [List.idxOf_cons]; rw [beq_false_of_ne hne]; rfl
  omega
/-- arcs of the net, one behind the other, from a to b, that cost c -/
def Path (l : List S61) : Int → Int → List Int → Int → Prop
  | a, b, [], c => a = b ∧ c = 0
  | a, b, i :: w, c => 0 ≤ i ∧ i < (l.length : Int) ∧ (rd_T61 l i).f0 = a ∧ Path l (rd_T61 l i).f1 b w (c - (rd_T61 l i).f2)
theorem Path.append {l : List S61} : ∀ {w w' : List Int} {a m b c c' : Int}, Path l a m w c → Path l m b w' c' → Path l a b (w ++ w') (c + c')
  | [], w', a, m, b, c, c', h, h' => by
    obtain ⟨rfl, rfl⟩ := h
    rw [Int.zero_add]; exact h'
  | i :: w, w', a, m, b, c, c', h, h' => by
    obtain ⟨h0, h1, h2, h3⟩ := h
    refine ⟨h0, h1, h2, ?_⟩
    have := h3.append h'
    rwa [show c - (rd_T61 l i).f2 + c' = c + c' - (rd_T61 l i).f2 by omega] at this
theorem arcG_val2 (l : List S61) (a b : Int) : arcG l a b = 99999 ∨ ∃ x ∈ l, x.f0 = a ∧ x.f1 = b ∧ arcG l a b = x.f2 := by
  have : ∀ j, j ≤ l.length → arcG (l.take j) a b = 99999 ∨ ∃ x ∈ l, x.f0 = a ∧ x.f1 = b ∧ arcG (l.take j) a b = x.f2 := by
    intro j
    induction j with
    | zero => exact fun _ => .inl rfl
    | succ j ih =>
      intro hj
      have := ih (by omega)
      rw [arcG_succ l j (by omega)]
      generalize arcG (l.take j) = F at this ⊢
      unfold upd
      by_cases h2 : a = l[j].f0 ∧ b = l[j].f1
      · rw [if_pos h2, ← h2.1, ← h2.2]
        unfold mn
        by_cases h3 : l[j].f2 < F a b
        · rw [if_pos h3]
          exact .inr ⟨l[j], List.getElem_mem _, h2.1.symm, h2.2.symm, rfl⟩
        · rwa [if_neg h3]
      · rwa [if_neg h2]
  have h2 := this l.length (Nat.le_refl _)
  rwa [List.take_length] at h2
/-- the arcs that an arc of the hierarchy stands for -/
def unp (C V : Int → Int → Int) (l : List S61) : Nat → Int → Int → List Int
  | 0, _, _ => []
  | k + 1, a, b => if V a b ≥ 0 then unp C V l k a (V a b) ++ unp C V l k (V a b) b else [idxOf (arcQ a b (C a b)) l]
theorem arcQ_at {l : List S61} {a b c : Int} (h : ∃ x ∈ l, x.f0 = a ∧ x.f1 = b ∧ c = x.f2) : ∃ i, ∃ hi : i < l.length, idxOf (arcQ a b c) l = (i : Int) ∧ l[i].f0 = a ∧ l[i].f1 = b ∧ l[i].f2 = c ∧ ∀ j (hj : j < l.length), j < i → ¬ (l[j].f0 = a ∧ l[j].f1 = b ∧ l[j].f2 = c) := by
  cases hf : l.findIdx? (arcQ a b c) with
  | none =>
    rw [List.findIdx?_eq_none_iff] at hf
    obtain ⟨x, hx, h0, h1, h2⟩ := h
    have := hf x hx
    simp [arcQ, h0, h1, h2] at this
  | some i =>
    obtain ⟨hi, hq, hj⟩ := List.findIdx?_eq_some_iff_getElem.1 hf
    simp only [arcQ, Bool.and_eq_true, beq_iff_eq] at hq
    refine ⟨i, hi, by simp [idxOf, hf], hq.1, hq.2.1, hq.2.2, fun j hjl hji hh => ?_⟩
    have := hj j hji
    simp [arcQ, hh.1, hh.2.1, hh.2.2] at this
theorem l8Find_ev {l : List S61} (hl : l.length ≤ 16) {N : Nat} (hN : N ≤ 8) (C : Int → Int → Int) {a b : Int} (a0 : 0 ≤ a) (a1 : a < N) (b0 : 0 ≤ b) (b1 : b < N) {i : Nat} (hi : i < l.length) (hq : l[i].f0 = a ∧ l[i].f1 = b ∧ l[i].f2 = C a b) (hno : ∀ j (hj : j < l.length), j < i → ¬ (l[j].f0 = a ∧ l[j].f1 = b ∧ l[j].f2 = C a b)) (n : Int) (o : List Int) (v : List (List Int)) :
    Ev (fun k => spec_l8Plain.l0 k a b 0 n l o (mat N C) v) [(i : Int)] := by
  refine downto (P := fun j => Ev (fun k => spec_l8Plain.l0 k a b (j : Int) n l o (mat N C) v) [(i : Int)]) (n := i) ?_ ?_
  · refine Ev.step (G := fun _ => some [(i : Int)]) (fun k => ?_) (Ev.ret _)
    simp only [spec_l8Plain.l0]
    rw [if_pos (by omega), if_pos (by omega), rd_T61_at l i hi, if_pos hq.1, if_pos hq.2.1, if_pos a0, if_pos (by rw [mat_len]; exact a1), if_pos b0, if_pos (by rw [mat_row_len _ a0 a1]; exact b1), rd_mat2 C a0 a1 b0 b1, if_pos hq.2.2]
  · intro j hj h
    refine Ev.step (fun k => ?_) h
    have hjl : j < l.length := by omega
    have := hno j hjl hj
    simp only [spec_l8Plain.l0]
    rw [if_pos (by omega), if_pos (by omega), rd_T61_at l j hjl, w64s (by omega)]
    by_cases h0 : l[j].f0 = a
    rotate_left
    · rw [if_neg h0]
    rw [if_pos h0]
    by_cases h1 : l[j].f1 = b
    rotate_left
    · rw [if_neg h1]
    rw [if_pos h1, if_pos a0, if_pos (by rw [mat_len]; exact a1), if_pos b0, if_pos (by rw [mat_row_len _ a0 a1]; exact b1), rd_mat2 C a0 a1 b0 b1, if_neg (fun h2 => this ⟨h0, h1, h2⟩)]
/-- what is known of an arc of the hierarchy -/
structure Unp (n : Int) (l : List S61) (o : List Int) (C V : Int → Int → Int) (a b : Int) (d : Nat) (w : List Int) : Prop where
  path : Path l a b w (C a b)
  one : 1 ≤ w.length
  two : V a b ≥ 0 → 2 ≤ w.length
  lone : V a b < 0 → w.length = 1
  few : w.length ≤ 2 ^ d
  impl : Ev (fun k => impl_Rank_unpack.f k o (mat n.toNat C) (mat n.toNat V) n l a b) w
  spec : Ev (fun k => spec_l8Plain.f k n l o (mat n.toNat C) (mat n.toNat V) a b) w
theorem unp_all {n : Int} {l : List S61} {o : List Int} (hok : netOkB n l = true) (ho : Ord o n) (C V : Int → Int → Int) (hC : C = (rkAll o (arcS l)).1) (hV : V = (rkAll o (arcS l)).2) : ∀ (d : Nat), d ≤ 8 → ∀ a b : Int, 0 ≤ a ∧ a < n → 0 ≤ b ∧ b < n → C a b < 99999 → (V a b ≥ 0 → o.idxOf (V a b) < d) → Unp n l o C V a b d (unp C V l (d + 1) a b) := by
  obtain ⟨b1, b2, b3⟩ := rk_bounds hok
  obtain ⟨N, rfl⟩ := Int.eq_ofNat_of_zero_le (show 0 ≤ n by omega)
  have hN : N ≤ 8 := by omega
  have hov : ∀ a b : Int, (C a b = arcG l a b ∧ V a b = -1) ∨ (a ≠ b ∧ Bf o (V a b) a ∧ Bf o (V a b) b ∧ C a b = C a (V a b) + C (V a b) b) := by
    subst hC; subst hV
    exact rkAll_over o ho.2.1 (arcS l)
  have hbx : ∀ a b : Int, 0 ≤ C a b := by
    subst hC
    exact fun a b => (rkAll_box o (arcG_box hok) a b).1
  clear hC hV
  intro d
  induction d with
  | zero =>
    intro _ a b ha hb hc hd
    have hv : ¬ V a b ≥ 0 := fun h => absurd (hd h) (by omega)
    have hu : unp C V l (0 + 1) a b = [idxOf (arcQ a b (C a b)) l] := by simp only [unp]; rw [if_neg hv]
    rw [hu]
    have hcv : C a b = arcG l a b := by
      rcases hov a b with h | ⟨_, h, _⟩
      · exact h.1
      · exact absurd (ho.2.2 _ h.mem.1).1 hv
    obtain ⟨i, hi, e, q0, q1, q2, hno⟩ := arcQ_at (l := l) (a := a) (b := b) (c := C a b) (by
      rcases arcG_val2 l a b with h | ⟨x, hx, h0, h1, h2⟩
      · omega
      · exact ⟨x, hx, h0, h1, hcv.trans h2⟩)
    rw [e]
    refine ⟨⟨by omega, by omega, by rw [rd_T61_at l i hi]; exact q0, by rw [rd_T61_at l i hi]; exact q1, by rw [rd_T61_at l i hi, q2]; omega⟩, by simp, fun h => absurd h hv, fun _ => rfl, by simp, ?_, ?_⟩
    · refine Ev.step (G := fun _ => some [(i : Int)]) (fun k => ?_) (Ev.ret _)
      simp only [impl_Rank_unpack.f, Int.toNat_natCast]
      rw [if_pos ⟨ha.1, by rw [mat_len]; exact ha.2, hb.1, by rw [mat_row_len _ ha.1 ha.2]; exact hb.2⟩, rd_mat2 V ha.1 ha.2 hb.1 hb.2, if_neg hv, if_pos ⟨by rw [mat_len]; exact ha.2, by rw [mat_row_len _ ha.1 ha.2]; exact hb.2⟩, rd_mat2 C ha.1 ha.2 hb.1 hb.2, e]
    · refine Ev.step (fun k => ?_) (l8Find_ev b3 hN C ha.1 ha.2 hb.1 hb.2 hi ⟨q0, q1, q2⟩ hno (N : Int) o (mat N V))
      simp only [spec_l8Plain.f, Int.toNat_natCast]
      rw [if_pos ha.1, if_pos (by rw [mat_len]; exact ha.2), if_pos hb.1, if_pos (by rw [mat_row_len _ ha.1 ha.2]; exact hb.2), rd_mat2 V ha.1 ha.2 hb.1 hb.2, if_neg hv]
  | succ d ih =>
    intro hd8 a b ha hb hc hd
    by_cases hv : V a b ≥ 0
    rotate_left
    · have h0 := ih (by omega) a b ha hb hc (fun h => absurd h hv)
      have hu : unp C V l (d + 1 + 1) a b = unp C V l (d + 1) a b := by simp only [unp]; rw [if_neg hv, if_neg hv]
      rw [hu]
      exact ⟨h0.path, h0.one, h0.two, h0.lone, Nat.le_trans h0.few (Nat.pow_le_pow_right (by omega) (by omega)), h0.impl, h0.spec⟩
    rcases hov a b with h | ⟨hab, f1, f2, hs⟩
    · omega
    obtain ⟨m, hm⟩ : ∃ m, V a b = m := ⟨_, rfl⟩
    have hu : unp C V l (d + 1 + 1) a b = unp C V l (d + 1) a m ++ unp C V l (d + 1) m b := by rw [unp, if_pos hv, hm]
    rw [hu]
    rw [hm] at f1 f2 hs
    have hmN := ho.2.2 m f1.mem.1
    have c1 := hbx a m
    have c2 := hbx m b
    have hmd := hd hv
    rw [hm] at hmd
    have key : ∀ x y : Int, (x = m ∨ y = m) → V x y ≥ 0 → o.idxOf (V x y) < d := fun x y hxy h => by
      rcases hov x y with h2 | ⟨_, g1, g2, _⟩
      · omega
      rcases hxy with rfl | rfl
      · have := bf_idx ho.2.1 g1; omega
      · have := bf_idx ho.2.1 g2; omega
    have u1 := ih (by omega) a m ha hmN (by omega) (key a m (.inr rfl))
    have u2 := ih (by omega) m b hmN hb (by omega) (key m b (.inl rfl))
    generalize unp C V l (d + 1) a m = x at u1 ⊢
    generalize unp C V l (d + 1) m b = y at u2 ⊢
    have k1 := u1.one; have k2 := u2.one; have k3 := u1.few; have k4 := u2.few
    have hp : 2 ^ (d + 1) = 2 ^ d + 2 ^ d := by rw [Nat.pow_succ]; omega
    have hp8 : 2 ^ d ≤ 256 := Nat.le_trans (Nat.pow_le_pow_right (by omega) (show d ≤ 8 by omega)) (by decide)
    refine ⟨?_, by rw [List.length_append]; omega, fun _ => by rw [List.length_append]; omega, fun h => by omega, by rw [List.length_append]; omega, ?_, ?_⟩
    · rw [hs]
      exact u1.path.append u2.path
    · refine Ev.step (G := fun k => (impl_Rank_unpack.f k o (mat N C) (mat N V) (N : Int) l a m).bind fun x => (impl_Rank_unpack.f k o (mat N C) (mat N V) (N : Int) l m b).bind fun y => if 1 ≤ x.length + y.length ∧ x.length + y.length ≤ 1048576 then some (x ++ y) else none) (fun k => ?_) ?_
      · simp only [impl_Rank_unpack.f, Int.toNat_natCast]
        rw [if_pos ⟨ha.1, by rw [mat_len]; exact ha.2, hb.1, by rw [mat_row_len _ ha.1 ha.2]; exact hb.2⟩, rd_mat2 V ha.1 ha.2 hb.1 hb.2, if_pos hv, hm]
      · have i1 := u1.impl
        have i2 := u2.impl
        rw [Int.toNat_natCast] at i1 i2
        exact Ev.bind i1 (Ev.bind i2 (Ev.pos (by omega) (Ev.ret _)))
    · refine Ev.step (G := fun k => (spec_l8Plain.f k (N : Int) l o (mat N C) (mat N V) a m).bind fun x => (spec_l8Plain.f k (N : Int) l o (mat N C) (mat N V) m b).bind fun y => if x.length + y.length < 17592186044416 then some (x ++ y) else none) (fun k => ?_) ?_
      · simp only [spec_l8Plain.f, Int.toNat_natCast]
        rw [if_pos ha.1, if_pos (by rw [mat_len]; exact ha.2), if_pos hb.1, if_pos (by rw [mat_row_len _ ha.1 ha.2]; exact hb.2), rd_mat2 V ha.1 ha.2 hb.1 hb.2, if_pos hv, hm]
      · have i1 := u1.spec
        have i2 := u2.spec
        rw [Int.toNat_natCast] at i1 i2
        exact Ev.bind i1 (Ev.bind i2 (Ev.pos (by omega) (Ev.ret _)))
end Go.Proofs.Ytdlaaccnaokdnaa.M
set_option linter.unusedVariables false
namespace Go.Proofs.Ytdlaaccnaokdnaa.M
open Go.RowKit Go.Proofs.Ytdlaaccnaokdnaa.P Go.Proofs.YtdlaaccnaokdnaaV.PrintWords Go.Proofs.YtdlaaccnaokdnaaV.PrintMore
def rkArc (n : Int) (l : List S61) (o : List Int) (c v : List (List Int)) (a b : Int) : List Int := if RkOk n l o c v ∧ (inB n a && (inB n b && true)) = true ∧ (rkAll o (arcS l)).1 a b < 99999 then unp (rkAll o (arcS l)).1 (rkAll o (arcS l)).2 l 9 a b else []
theorem rk_diag {n : Int} {l : List S61} {o : List Int} (hok : netOkB n l = true) (ho : Ord o n) (a : Int) : (rkAll o (arcS l)).1 a a = 99999 := by
  rcases rkAll_over o ho.2.1 (arcS l) a a with h | ⟨h, _⟩
  · rw [h.1]
    rcases arcG_val2 l a a with h2 | ⟨x, hx, h0, h1, _⟩
    · exact h2
    · exact absurd (h0.trans h1.symm) (rk_arc hok hx).2.2.2.2.1
  · exact absurd rfl h
theorem rk_unp {n : Int} {l : List S61} {o : List Int} (hok : netOkB n l = true) (ho : Ord o n) {a b : Int} (ha : 0 ≤ a ∧ a < n) (hb : 0 ≤ b ∧ b < n) (hc : (rkAll o (arcS l)).1 a b < 99999) : Unp n l o (rkAll o (arcS l)).1 (rkAll o (arcS l)).2 a b 8 (unp (rkAll o (arcS l)).1 (rkAll o (arcS l)).2 l 9 a b) := by
  refine unp_all hok ho _ _ rfl rfl 8 (Nat.le_refl _) a b ha hb hc (fun h => ?_)
  obtain ⟨b1, b2, b3⟩ := rk_bounds hok
  rcases rkAll_over o ho.2.1 (arcS l) a b with h2 | ⟨_, g1, _, _⟩
  · have h3 : (rkAll o (arcS l)).2 a b = -1 := h2.2
    omega
  · have h4 := List.idxOf_lt_length_of_mem g1.mem.1
    have := ho.1
    omega
theorem inB_two {n a b : Int} (hn : 1 ≤ n ∧ n ≤ 8) (h : (inB n a && (inB n b && true)) = true) : (0 ≤ a ∧ a < n) ∧ (0 ≤ b ∧ b < n) := by
  unfold inB at h
  rw [w64 (by omega)] at h
  simp at h
  omega
theorem rkArc_few (n : Int) (l : List S61) (o : List Int) (c v : List (List Int)) (a b : Int) : (rkArc n l o c v a b).length ≤ 256 := by
  unfold rkArc
  by_cases h : RkOk n l o c v ∧ (inB n a && (inB n b && true)) = true ∧ (rkAll o (arcS l)).1 a b < 99999
  · rw [if_pos h]
    obtain ⟨⟨h1, h2, _⟩, h3, h4⟩ := h
    obtain ⟨b1, b2, b3⟩ := rk_bounds h1
    obtain ⟨i1, i2⟩ := inB_two ⟨b1, b2⟩ h3
    exact (rk_unp h1 h2 i1 i2 h4).few
  · rw [if_neg h]; simp
theorem implRankArc_ev (n : Int) (l : List S61) (o : List Int) (c v : List (List Int)) (a b : Int) (ho : o.length ≤ 1048576) (hc : Few c) (hv : Few v) : Ev (fun k => impl_RankArc.f k n l o c v a b) (rkArc n l o c v a b) := by
  have hno : Ev (fun k => impl_RankArc.j0 k a b true n l o c v) [] := Ev.step (G := fun _ => some []) (fun k => by simp only [impl_RankArc.j0, if_true]) (Ev.ret _)
  unfold impl_RankArc.f
  refine Ev.bind (implRankOk_ev n l o c v ho hc hv) ?_
  by_cases h : RkOk n l o c v
  rotate_left
  · have e : rkArc n l o c v a b = [] := if_neg (fun h2 => h h2.1)
    rw [e]
    exact Ev.neg (by simp [h]) hno
  refine Ev.pos (by simp [h]) ?_
  refine Ev.bind (a := (inB n a && (inB n b && true))) (Ev.of fun _ => rfl) ?_
  by_cases h2 : (inB n a && (inB n b && true)) = true
  rotate_left
  · have e : rkArc n l o c v a b = [] := if_neg (fun h3 => h2 h3.2.1)
    rw [e]
    exact Ev.neg h2 hno
  refine Ev.pos h2 ?_
  have hr := h
  obtain ⟨h1, h3, h4, h5⟩ := h
  obtain ⟨b1, b2, b3⟩ := rk_bounds h1
  obtain ⟨i1, i2⟩ := inB_two ⟨b1, b2⟩ h2
  obtain ⟨N, rfl⟩ := Int.eq_ofNat_of_zero_le (show 0 ≤ n by omega)
  rw [Int.toNat_natCast] at h4 h5
  have hbx := rkAll_box o (arcG_box h1) a b
  have e : Ev (fun k => impl_RankArc.j0 k a b ((rkAll o (arcS l)).1 a b == 99999) (N : Int) l o c v) (rkArc (N : Int) l o c v a b) := by
    by_cases h6 : (rkAll o (arcS l)).1 a b = 99999
    · have e : rkArc (N : Int) l o c v a b = [] := if_neg (fun h3 => by omega)
      rw [e, h6]
      exact hno
    · have e : rkArc (N : Int) l o c v a b = unp (rkAll o (arcS l)).1 (rkAll o (arcS l)).2 l 9 a b := if_pos ⟨hr, h2, by omega⟩
      rw [e, show ((rkAll o (arcS l)).1 a b == 99999) = false by simp [h6]]
      have hu := rk_unp h1 h3 i1 i2 (by omega)
      have hi := hu.impl
      rw [Int.toNat_natCast, ← h4, ← h5] at hi
      refine Ev.step (G := fun k => (impl_Rank_unpack.f k o c v (N : Int) l a b).bind fun t110 => ((slices_Clip_int_int.f t110).bind fun t113 => (some t113))) (fun k => by simp only [impl_RankArc.j0, Bool.false_eq_true, if_false]) (Ev.bind hi (Ev.of fun _ => rfl))
  refine Ev.pos i1.1 (Ev.pos (by rw [h4, mat_len]; exact i1.2) (Ev.pos i2.1 (Ev.pos (by rw [h4, mat_row_len _ i1.1 i1.2]; exact i2.2) ?_)))
  rw [show rd (rd_L5 c a) b = (rkAll o (arcS l)).1 a b from by rw [h4]; exact rd_mat2 _ i1.1 i1.2 i2.1 i2.2]
  exact e
theorem specRankArc_ev (n : Int) (l : List S61) (o : List Int) (c v : List (List Int)) (a b : Int) (hl : l.length ≤ 1048576) (ho : o.length ≤ 1048576) : Ev (fun k => spec_RankArc.f k n l o c v a b) (rkArc n l o c v a b) := by
  unfold spec_RankArc.f
  refine Ev.bind (specRankOk_ev n l o c v hl ho) ?_
  by_cases h : RkOk n l o c v
  rotate_left
  · have e : rkArc n l o c v a b = [] := if_neg (fun h2 => h h2.1)
    rw [e]
    exact Ev.neg (by simp [h]) (Ev.ret _)
  refine Ev.pos (by simp [h]) ?_
  rw [l1In_inB, l1In_inB]
  simp only [Option.bind_some]
  by_cases ha : inB n a = true
  rotate_left
  · have e : rkArc n l o c v a b = [] := if_neg (fun h2 => by simp [ha] at h2)
    rw [e]
    exact Ev.neg ha (Ev.ret _)
  refine Ev.pos ha ?_
  by_cases hb : inB n b = true
  rotate_left
  · have e : rkArc n l o c v a b = [] := if_neg (fun h2 => by simp [hb] at h2)
    rw [e]
    exact Ev.neg hb (Ev.ret _)
  refine Ev.pos hb ?_
  have h2 : (inB n a && (inB n b && true)) = true := by simp [ha, hb]
  have hr := h
  obtain ⟨h1, h3, h4, h5⟩ := h
  obtain ⟨b1, b2, b3⟩ := rk_bounds h1
  obtain ⟨i1, i2⟩ := inB_two ⟨b1, b2⟩ h2
  obtain ⟨N, rfl⟩ := Int.eq_ofNat_of_zero_le (show 0 ≤ n by omega)
  rw [Int.toNat_natCast] at h4 h5
  by_cases hab : a = b
  · have e : rkArc (N : Int) l o c v a b = [] := if_neg (fun h2 => by have := rk_diag h1 h3 a; rw [← hab] at h2; omega)
    rw [e]
    exact Ev.pos hab (Ev.ret _)
  refine Ev.neg hab (Ev.pos i1.1 (Ev.pos (by rw [h4, mat_len]; exact i1.2) (Ev.pos i2.1 (Ev.pos (by rw [h4, mat_row_len _ i1.1 i1.2]; exact i2.2) ?_))))
  rw [show rd (rd_L5 c a) b = (rkAll o (arcS l)).1 a b from by rw [h4]; exact rd_mat2 _ i1.1 i1.2 i2.1 i2.2]
  by_cases h6 : (rkAll o (arcS l)).1 a b ≥ 99999
  · have e : rkArc (N : Int) l o c v a b = [] := if_neg (fun h3 => by omega)
    rw [e]
    exact Ev.pos h6 (Ev.ret _)
  · have e : rkArc (N : Int) l o c v a b = unp (rkAll o (arcS l)).1 (rkAll o (arcS l)).2 l 9 a b := if_pos ⟨hr, h2, by omega⟩
    rw [e]
    have hi := (rk_unp h1 h3 i1 i2 (by omega)).spec
    rw [Int.toNat_natCast, ← h4, ← h5] at hi
    exact Ev.neg h6 (Ev.bind hi (Ev.ret _))
end Go.Proofs.Ytdlaaccnaokdnaa.M
set_option linter.unusedVariables false
namespace Go.Proofs.Ytdlaaccnaokdnaa.M
open Go.RowKit Go.Proofs.Ytdlaaccnaokdnaa.P Go.Proofs.YtdlaaccnaokdnaaV.PrintWords Go.Proofs.YtdlaaccnaokdnaaV.PrintMore

theorem xor_nonneg {x y : Int} (hx : 0 ≤ x) (hx1 : x < 2 ^ 62) (hy : 0 ≤ y) (hy1 : y < 2 ^ 62) : 0 ≤ Go.bits .xor .i64 x y := by
  obtain ⟨a, rfl⟩ := Int.eq_ofNat_of_zero_le hx
  obtain ⟨b, rfl⟩ := Int.eq_ofNat_of_zero_le hy
  have ha : a < 2 ^ 62 := by omega
  have hb : b < 2 ^ 62 := by omega
  have ha' : a % 2 ^ (IntKind.i64).bits = a := Nat.mod_eq_of_lt (Nat.lt_of_lt_of_le ha (by decide))
  have hb' : b % 2 ^ (IntKind.i64).bits = b := Nat.mod_eq_of_lt (Nat.lt_of_lt_of_le hb (by decide))
  have hlt := Nat.xor_lt_two_pow ha hb
  have e : Go.bits .xor .i64 (a : Int) (b : Int) = ((a ^^^ b : Nat) : Int) := by
    simp only [Go.bits, BitVec.ofInt_natCast, BitVec.toNat_xor, BitVec.toNat_ofNat, ha', hb']
    rw [IntKind.wrap_i64]
    omega
  rw [e]
  omega
/-- bytes, not too many -/
def Byt (b : List Int) : Prop := (∀ x ∈ b, 0 ≤ x ∧ x ≤ 255) ∧ b.length ≤ 1048576
theorem Byt.at_ {b : List Int} (h : Byt b) (i : Int) : 0 ≤ rd b i ∧ rd b i ≤ 255 := by
  unfold rd
  rw [List.getD_eq_getElem?_getD]
  cases e : b[i.toNat]? with
  | none => exact ⟨by decide, by decide⟩
  | some x => exact h.1 x (List.mem_of_getElem? e)
theorem tmod_in {x n : Int} (h0 : 0 ≤ x) (hn : 1 ≤ n) : 0 ≤ Int.tmod x n ∧ Int.tmod x n < n := ⟨Int.tmod_nonneg _ h0, Int.tmod_lt_of_pos _ (by omega)⟩
theorem pick_ev {b : List Int} {p : Int} (n : Int) (hb : Byt b) (h0 : 0 ≤ p) (h1 : p ≤ 1000000) : ∃ r, Ev (fun k => spec_l30Rd_pick.f k b p n) (r, p + 1) ∧ (n < 1 → r = 0) ∧ (1 ≤ n → 0 ≤ r ∧ r < n) := by
  have hw : wrap64 (p + 1) = p + 1 := w64 (by omega)
  by_cases hn : n < 1
  · refine ⟨0, ?_, fun _ => rfl, fun h => by omega⟩
    unfold spec_l30Rd_pick.f
    rw [hw]
    exact Ev.pos hn (Ev.step (G := fun _ => some (0, p + 1)) (fun k => by simp only [spec_l30Rd_pick.j0]; rw [if_pos trivial]) (Ev.ret _))
  · have hL := hb.2
    by_cases hl : b.length = 0
    · refine ⟨0, ?_, fun _ => rfl, fun h => by omega⟩
      unfold spec_l30Rd_pick.f
      rw [hw, hl]
      exact Ev.neg hn (Ev.step (G := fun _ => some (0, p + 1)) (fun k => by simp only [spec_l30Rd_pick.j0]; rw [if_pos (by simp)]) (Ev.ret _))
    · have hq : wrap64 (p + 1 - 1) = p := by rw [w64 (by omega)]; omega
      have hb0 : ((b.length : Int) == 0) = false := beq_eq_false_iff_ne.mpr (by omega)
      have key : ∃ y : Int, 0 ≤ y ∧ ∀ k, spec_l30Rd_pick.j0 (k + 1) n false b (p + 1) = some (Int.tmod y n, p + 1) := by
        by_cases hp : p < (b.length : Int)
        · have hr := hb.at_ p
          refine ⟨rd b p, hr.1, fun k => ?_⟩
          simp only [spec_l30Rd_pick.j0]
          rw [if_neg (by simp), hq, if_pos hp, if_pos h0, if_neg (by omega), w64 (by omega)]
        · have t1 := tmod_in (x := p) (n := (b.length : Int)) h0 (by omega)
          have e2 : wrap64 (wrap64 (p * 7) + 3) = p * 7 + 3 := by rw [w64 (n := p * 7) (by omega), w64 (by omega)]
          have t2 := tmod_in (x := p * 7 + 3) (n := (b.length : Int)) (by omega) (by omega)
          have u := hb.at_ (Int.tmod p (b.length : Int))
          have v := hb.at_ (Int.tmod (p * 7 + 3) (b.length : Int))
          have d0 := Int.tdiv_nonneg h0 (show (0 : Int) ≤ (b.length : Int) by omega)
          have d1 : Int.tdiv p (b.length : Int) ≤ p := Int.tdiv_le_self _ h0
          refine ⟨Go.bits .xor .i64 (rd b (Int.tmod p (b.length : Int)) * 131 + rd b (Int.tmod (p * 7 + 3) (b.length : Int)) * 1117 + p * 29 + Int.tdiv p (b.length : Int) * 53) (Int.tdiv (rd b (Int.tmod p (b.length : Int)) * 131 + rd b (Int.tmod (p * 7 + 3) (b.length : Int)) * 1117 + p * 29 + Int.tdiv p (b.length : Int) * 53) 64), ?_, fun k => ?_⟩
          · generalize rd b (Int.tmod p (b.length : Int)) = x at u
            generalize rd b (Int.tmod (p * 7 + 3) (b.length : Int)) = z at v
            generalize Int.tdiv p (b.length : Int) = d at d0 d1
            have hs : 0 ≤ x * 131 + z * 1117 + p * 29 + d * 53 ∧ x * 131 + z * 1117 + p * 29 + d * 53 < 2 ^ 62 := by omega
            generalize x * 131 + z * 1117 + p * 29 + d * 53 = s at hs
            have q0 := Int.tdiv_nonneg hs.1 (show (0 : Int) ≤ 64 by omega)
            have q1 : Int.tdiv s 64 ≤ s := Int.tdiv_le_self _ hs.1
            exact xor_nonneg hs.1 hs.2 q0 (by omega)
          · simp only [spec_l30Rd_pick.j0]
            rw [if_neg (by simp), hq, e2, if_neg hp, if_neg (by omega), if_pos t1.1, if_pos t1.2, if_pos t2.1, if_pos t2.2, if_neg (by omega)]
            generalize rd b (Int.tmod p (b.length : Int)) = x at u
            generalize rd b (Int.tmod (p * 7 + 3) (b.length : Int)) = z at v
            generalize Int.tdiv p (b.length : Int) = d at d0 d1
            rw [w64 (n := x) (by omega), w64 (n := x * 131) (by omega), w64 (n := z) (by omega), w64 (n := z * 1117) (by omega), w64 (n := x * 131 + z * 1117) (by omega), w64 (n := p * 29) (by omega), w64 (n := x * 131 + z * 1117 + p * 29) (by omega), w64 (n := d) (by omega), w64 (n := d * 53) (by omega), w64 (n := x * 131 + z * 1117 + p * 29 + d * 53) (by omega)]
            have hs : 0 ≤ x * 131 + z * 1117 + p * 29 + d * 53 ∧ x * 131 + z * 1117 + p * 29 + d * 53 < 2 ^ 62 := by omega
            generalize x * 131 + z * 1117 + p * 29 + d * 53 = s at hs
            have q0 := Int.tdiv_nonneg hs.1 (show (0 : Int) ≤ 64 by omega)
            have q1 : Int.tdiv s 64 ≤ s := Int.tdiv_le_self _ hs.1
            rw [w64 (n := Int.tdiv s 64) (by omega)]
      obtain ⟨y, hy, hk⟩ := key
      refine ⟨Int.tmod y n, ?_, fun h => by omega, fun h => tmod_in hy h⟩
      unfold spec_l30Rd_pick.f
      rw [hw, hb0]
      exact Ev.neg hn (Ev.step (G := fun _ => some (Int.tmod y n, p + 1)) hk (Ev.ret _))
theorem one_ev {b : List Int} {p : Int} (l : List Int) (hb : Byt b) (h0 : 0 ≤ p) (h1 : p ≤ 1000000) (hl : 1 ≤ l.length) : ∃ r, Ev (fun k => spec_l30Rd_one.f k b p l) (r, p + 1) ∧ r ∈ l := by
  obtain ⟨r, e, _, hr⟩ := pick_ev (b := b) (p := p) (l.length : Int) hb h0 h1
  obtain ⟨r0, r1⟩ := hr (by omega)
  refine ⟨rd l r, ?_, ?_⟩
  · unfold spec_l30Rd_one.f
    exact Ev.bind e (Ev.pos r0 (Ev.pos r1 (Ev.ret _)))
  · obtain ⟨i, rfl⟩ := Int.eq_ofNat_of_zero_le r0
    rw [rd_at0 l i (by omega)]
    exact List.getElem_mem _
theorem wf_u8 {x : Int} (h : (Lit.int .u8 x).wf = true) : 0 ≤ x ∧ x ≤ 255 := by
  unfold Lit.wf at h
  simp [IntKind.min, IntKind.max, IntKind.signed, IntKind.bits] at h
  exact h
theorem open_ev {c : List Int} (hl : c.length ≤ 1048576) (hw : ∀ x ∈ c, (Lit.int .u8 x).wf = true) : ∃ b, spec_l30Open.f c = some (b, 0) ∧ Byt b := by
  unfold spec_l30Open.f
  by_cases h : (c.length : Int) > 2000
  · rw [if_pos h, if_pos (by omega)]
    exact ⟨_, rfl, fun x hx => wf_u8 (hw x (List.mem_of_mem_take hx)), by rw [List.length_take]; omega⟩
  · rw [if_neg h]
    exact ⟨_, rfl, fun x hx => wf_u8 (hw x hx), hl⟩
end Go.Proofs.Ytdlaaccnaokdnaa.M
set_option linter.unusedVariables false
namespace Go.Proofs.Ytdlaaccnaokdnaa.M
open Go.RowKit Go.Proofs.Ytdlaaccnaokdnaa.P Go.Proofs.YtdlaaccnaokdnaaV.PrintWords Go.Proofs.YtdlaaccnaokdnaaV.PrintMore
theorem ord_ins {x : List Int} {i : Nat} (h : Ord x (i : Int)) (r : Nat) : Ord (x.take r ++ [(i : Int)] ++ x.drop r) ((i + 1 : Nat) : Int) := by
  have hp : (x.take r ++ [(i : Int)] ++ x.drop r).Perm ((i : Int) :: x) := by
    have h1 : (x.take r ++ [(i : Int)] ++ x.drop r).Perm ((i : Int) :: (x.take r ++ x.drop r)) := by
      rw [List.append_assoc]
      exact List.perm_middle
    rwa [List.take_append_drop] at h1
  obtain ⟨h1, h2, h3⟩ := h
  refine ⟨by rw [hp.length_eq, List.length_cons]; omega, hp.nodup_iff.2 (List.nodup_cons.2 ⟨fun hm => by have := h3 _ hm; omega, h2⟩), fun y hy => ?_⟩
  rcases List.mem_cons.1 (hp.mem_iff.1 hy) with rfl | hy
  · omega
  · have := h3 y hy; omega
theorem tmod_ne {x n : Int} (hn : 2 ≤ n) (h : 0 ≤ x ∧ x < n) : x ≠ Int.tmod (x + 1) n := by
  by_cases hx : x + 1 = n
  · rw [hx, Int.tmod_self]; omega
  · rw [Int.tmod_eq_emod_of_nonneg (by omega), Int.emod_eq_of_lt (by omega) (by omega)]; omega
theorem arc_ok {n a b c d e : Int} (hn : n ≤ 8) (ha : 0 ≤ a ∧ a < n) (hb : 0 ≤ b ∧ b < n) (hne : a ≠ b) (hc : 0 ≤ c ∧ c ≤ 99) (hd : 0 ≤ d ∧ d ≤ 99) (he : 0 ≤ e ∧ e ≤ 9) : badArc n (⟨a, b, c, d, e⟩ : S61) = false := by
  have hw : wrap64 (n - 1) = n - 1 := w64 (by omega)
  simp [badArc, inB, costB, loadB, hw]
  omega
theorem netOk_of {n : Int} {l : List S61} (h1 : 1 ≤ n ∧ n ≤ 8) (h2 : l.length ≤ 16) (h3 : ∀ x ∈ l, badArc n x = false) : netOkB n l = true := by
  simp only [netOkB, Bool.and_eq_true, Bool.not_eq_true', decide_eq_true_eq, List.any_eq_false]
  exact ⟨⟨h1, h2⟩, fun x hx => by rw [h3 x hx]; decide⟩
theorem l30Net_k0 {b : List Int} (hb : Byt b) {nodes : Int} (hn : 2 ≤ nodes ∧ nodes ≤ 6) : ∀ (m : Nat) (p : Int) (l : List S61), m ≤ 13 → 0 ≤ p → p + 6 * m ≤ 900000 → l.length + m ≤ 13 → (∀ x ∈ l, badArc nodes x = false) →
    ∃ (l' : List S61) (p' : Int), Ev (fun k => spec_l30Net.l0 k (m : Int) b p nodes l) (nodes, l', p') ∧ l'.length ≤ 13 ∧ (∀ x ∈ l', badArc nodes x = false) ∧ p ≤ p' ∧ p' ≤ p + 6 * m
  | 0, p, l, hm, h0, h1, hl, ha => by
    refine ⟨l, p, Ev.step (G := fun _ => some (nodes, l, p)) (fun k => ?_) (Ev.ret _), by omega, ha, Int.le_refl _, by omega⟩
    simp only [spec_l30Net.l0]
    rw [if_neg (by omega)]
  | m + 1, p, l, hm, h0, h1, hl, ha => by
    obtain ⟨r1, e1, _, b1⟩ := pick_ev (b := b) (p := p) nodes hb h0 (by omega)
    obtain ⟨r2, e2, _, b2⟩ := pick_ev (b := b) (p := p + 1) nodes hb (by omega) (by omega)
    obtain ⟨r3, e3, _, b3⟩ := pick_ev (b := b) (p := p + 1 + 1) 100 hb (by omega) (by omega)
    obtain ⟨r4, e4, b4⟩ := one_ev (b := b) (p := p + 1 + 1 + 1) [0, 1, 2, 5, 9, r3] hb (by omega) (by omega) (by simp)
    obtain ⟨r5, e5, b5⟩ := one_ev (b := b) (p := p + 1 + 1 + 1 + 1) [0, 0, 3, 8] hb (by omega) (by omega) (by simp)
    obtain ⟨r6, e6, _, b6⟩ := pick_ev (b := b) (p := p + 1 + 1 + 1 + 1 + 1) 10 hb (by omega) (by omega)
    have c1 := b1 (by omega)
    have c2 := b2 (by omega)
    have c3 := b3 (by omega)
    have c6 := b6 (by omega)
    simp only [List.mem_cons, List.not_mem_nil, or_false] at b4 b5
    have c4 : 0 ≤ r4 ∧ r4 ≤ 99 := by omega
    have c5 : 0 ≤ r5 ∧ r5 ≤ 8 := by omega
    have t := tmod_in (x := r2 + 1) (n := nodes) (by omega) (by omega)
    have hlt : l.length < 3518437208883 := by omega
    have hw : wrap64 (((m + 1 : Nat) : Int) - 1) = (m : Int) := by rw [w64 (by omega)]; omega
    have hw2 : wrap64 (r2 + 1) = r2 + 1 := w64 (by omega)
    have go : ∀ x : S61, badArc nodes x = false → ∃ (l' : List S61) (p' : Int), Ev (fun k => spec_l30Net.l0 k (m : Int) b (p + 1 + 1 + 1 + 1 + 1 + 1) nodes (l ++ [x])) (nodes, l', p') ∧ l'.length ≤ 13 ∧ (∀ x ∈ l', badArc nodes x = false) ∧ p ≤ p' ∧ p' ≤ p + 6 * ((m + 1 : Nat) : Int) := by
      intro x hx
      obtain ⟨l', p', f1, f2, f3, f4, f5⟩ := l30Net_k0 hb hn m (p + 1 + 1 + 1 + 1 + 1 + 1) (l ++ [x]) (by omega) (by omega) (by omega) (by simp; omega) (fun y hy => by
        rcases List.mem_append.1 hy with hy | hy
        · exact ha y hy
        · simp at hy; rw [hy]; exact hx)
      exact ⟨l', p', f1, f2, f3, by omega, by omega⟩
    by_cases he : r1 = r2
    · obtain ⟨l', p', f1, f2, f3, f4, f5⟩ := go ⟨r1, Int.tmod (r2 + 1) nodes, r4, r5, r6⟩ (arc_ok (by omega) (by omega) t (by rw [he]; exact tmod_ne (by omega) c2) c4 (by omega) (by omega))
      refine ⟨l', p', Ev.step (fun k => by simp only [spec_l30Net.l0]; rw [if_pos (by omega), hw]) ?_, f2, f3, f4, f5⟩
      refine Ev.bind e1 (Ev.bind e2 (Ev.bind e3 (Ev.bind e4 (Ev.bind e5 (Ev.bind e6 (Ev.pos he (Ev.neg (by omega) (Ev.pos hlt ?_))))))))
      simp only [hw2]
      exact f1
    · obtain ⟨l', p', f1, f2, f3, f4, f5⟩ := go ⟨r1, r2, r4, r5, r6⟩ (arc_ok (by omega) c1 c2 he c4 (by omega) (by omega))
      refine ⟨l', p', Ev.step (fun k => by simp only [spec_l30Net.l0]; rw [if_pos (by omega), hw]) ?_, f2, f3, f4, f5⟩
      exact Ev.bind e1 (Ev.bind e2 (Ev.bind e3 (Ev.bind e4 (Ev.bind e5 (Ev.bind e6 (Ev.neg he (Ev.pos hlt f1)))))))
theorem l30Net_ok {b : List Int} (hb : Byt b) {p : Int} (h0 : 0 ≤ p) (h1 : p ≤ 800000) : ∃ (n : Int) (l : List S61) (p' : Int), Ev (fun k => spec_l30Net.f k b p) (n, l, p') ∧ 2 ≤ n ∧ n ≤ 6 ∧ l.length ≤ 13 ∧ netOkB n l = true ∧ p ≤ p' ∧ p' ≤ p + 90 := by
  obtain ⟨r1, e1, _, b1⟩ := pick_ev (b := b) (p := p) 5 hb h0 (by omega)
  obtain ⟨r2, e2, _, b2⟩ := pick_ev (b := b) (p := p + 1) 14 hb (by omega) (by omega)
  have c1 := b1 (by omega)
  have c2 := b2 (by omega)
  obtain ⟨m, rfl⟩ := Int.eq_ofNat_of_zero_le c2.1
  have hw : wrap64 (2 + r1) = 2 + r1 := w64 (by omega)
  obtain ⟨l', p', f1, f2, f3, f4, f5⟩ := l30Net_k0 hb (nodes := 2 + r1) (by omega) m (p + 1 + 1) [] (by omega) (by omega) (by omega) (by simp; omega) (fun x hx => by cases hx)
  refine ⟨2 + r1, l', p', ?_, by omega, by omega, f2, netOk_of (by omega) (by omega) f3, by omega, by omega⟩
  unfold spec_l30Net.f
  refine Ev.bind e1 (Ev.bind e2 ?_)
  simp only [hw]
  exact f1
theorem order_ok {b : List Int} (hb : Byt b) {p : Int} (h0 : 0 ≤ p) (h1 : p ≤ 900000) {n : Int} (hn : 0 ≤ n ∧ n ≤ 9) : ∃ (o : List Int) (p' : Int), Ev (fun k => spec_l30Order.f k b p n) (o, p') ∧ Ord o n ∧ p ≤ p' ∧ p' ≤ p + 9 := by
  have key : ∀ (d i : Nat) (x : List Int) (q : Int), (i : Int) + d = n → Ord x (i : Int) → 0 ≤ q → q + d ≤ 900100 → ∃ (o : List Int) (p' : Int), Ev (fun k => spec_l30Order.l0 k n x (i : Int) b q) (o, p') ∧ Ord o n ∧ q ≤ p' ∧ p' ≤ q + d := by
    intro d
    induction d with
    | zero =>
      intro i x q hi hx h0 h1
      have hi2 : (i : Int) = n := by omega
      refine ⟨x, q, Ev.step (G := fun _ => some (x, q)) (fun k => ?_) (Ev.ret _), hi2 ▸ hx, by omega, by omega⟩
      simp only [spec_l30Order.l0]
      rw [if_neg (by omega)]
    | succ d ih =>
      intro i x q hi hO h0 h1
      have hx : x.length = i := by have := hO.1; omega
      have hw : wrap64 ((x.length : Int) + 1) = ((i + 1 : Nat) : Int) := by rw [hx]; unfold wrap64; omega
      obtain ⟨r, hr, _, hr2⟩ := pick_ev (b := b) (p := q) ((i + 1 : Nat) : Int) hb h0 (by omega)
      obtain ⟨r0, r1⟩ := hr2 (by omega)
      have hlen : (x.take r.toNat ++ [(i : Int)] ++ x.drop r.toNat).length = i + 1 := by simp; omega
      obtain ⟨o, p', h2, h3, h4, h5⟩ := ih (i + 1) (x.take r.toNat ++ [(i : Int)] ++ x.drop r.toNat) (q + 1) (by omega) (ord_ins hO r.toNat) (by omega) (by omega)
      refine ⟨o, p', ?_, h3, by omega, by omega⟩
      refine Ev.step (G := fun k => (spec_l30Rd_pick.f k b q ((i + 1 : Nat) : Int)).bind fun bt104 => (if 0 ≤ bt104.1 then (if bt104.1 ≤ (x.length : Int) then (if ([] : List Int).length + (x.take (bt104.1 : Int).toNat).length < 17592186044416 then (if (([] : List Int) ++ x.take (bt104.1 : Int).toNat).length < 17592186044416 then (if (([] : List Int) ++ x.take (bt104.1 : Int).toNat ++ [(i : Int)]).length + (x.drop (bt104.1 : Int).toNat).length < 17592186044416 then (spec_l30Order.l0 k n (([] : List Int) ++ x.take (bt104.1 : Int).toNat ++ [(i : Int)] ++ x.drop (bt104.1 : Int).toNat) (wrap64 ((i : Int) + 1)) b bt104.2) else none) else none) else none) else none) else none)) (fun k => ?_) ?_
      · simp only [spec_l30Order.l0, Option.bind_some]
        rw [if_pos (by omega), hw]
      · refine Ev.bind hr ?_
        refine Ev.congr (fun k => ?_) h2
        show (if 0 ≤ r then (if r ≤ (x.length : Int) then (if ([] : List Int).length + (x.take r.toNat).length < 17592186044416 then (if (([] : List Int) ++ x.take r.toNat).length < 17592186044416 then (if (([] : List Int) ++ x.take r.toNat ++ [(i : Int)]).length + (x.drop r.toNat).length < 17592186044416 then (spec_l30Order.l0 k n (([] : List Int) ++ x.take r.toNat ++ [(i : Int)] ++ x.drop r.toNat) (wrap64 ((i : Int) + 1)) b (q + 1)) else none) else none) else none) else none) else none) = _
        rw [if_pos r0, if_pos (by omega), if_pos (by simp; omega), if_pos (by simp; omega), if_pos (by simp; omega), List.nil_append, w64s (by omega)]
  obtain ⟨o, p', h2, h3, h4, h5⟩ := key n.toNat 0 [] p (by omega) ⟨rfl, List.nodup_nil, fun x hx => by cases hx⟩ h0 (by omega)
  exact ⟨o, p', h2, h3, h4, by omega⟩
theorem few_tput {G : List (List Int)} (h : Few G) {a b : Int} (h0 : 0 ≤ a) (h1 : a < G.length) (x : Int) : Few (tput G a b x) := by
  refine ⟨by unfold tput; rw [List.length_set]; exact h.1, fun r hr => ?_⟩
  unfold tput at hr
  rcases List.mem_or_eq_of_mem_set hr with hr | rfl
  · exact h.2 r hr
  · rw [List.length_set]
    obtain ⟨i, rfl⟩ := Int.eq_ofNat_of_zero_le h0
    have e : rd_L5 G (i : Int) = G[i]'(by omega) := by simp [rd_L5]; rw [List.getElem?_eq_getElem (by omega)]; rfl
    rw [e]
    exact h.2 _ (List.getElem_mem _)
/-- what spec.l30Rank draws -/
theorem l30Rank_ev {b : List Int} (hb : Byt b) : ∃ (n : Int) (l : List S61) (o : List Int) (C V : List (List Int)) (p : Int), Ev (fun k => spec_l30Rank.f k b 0) (n, l, o, C, V, p) ∧ netOkB n l = true ∧ l.length ≤ 13 ∧ o.length ≤ 9 ∧ Few C ∧ Few V ∧ 0 ≤ p ∧ p ≤ 1000 := by
  obtain ⟨n, l, p1, e1, n0, n1, l0, lk, p0, q0⟩ := l30Net_ok hb (p := 0) (by omega) (by omega)
  obtain ⟨o, p2, e2, oo, p3, q3⟩ := order_ok hb (p := p1) (by omega) (by omega) (n := n) (by omega)
  have e3 : spec_l8Make.f n l o = some (o, mat n.toNat (rkAll o (arcS l)).1, mat n.toNat (rkAll o (arcS l)).2) := rkF_yes lk oo
  obtain ⟨a, e4, _, ha⟩ := pick_ev (b := b) (p := p2) n hb (by omega) (by omega)
  obtain ⟨c, e5, _, hc⟩ := pick_ev (b := b) (p := p2 + 1) n hb (by omega) (by omega)
  obtain ⟨d, e6, _, _⟩ := pick_ev (b := b) (p := p2 + 1 + 1) 16 hb (by omega) (by omega)
  replace ha := ha (by omega)
  replace hc := hc (by omega)
  obtain ⟨N, rfl⟩ := Int.eq_ofNat_of_zero_le (show 0 ≤ n by omega)
  rw [Int.toNat_natCast] at e3
  have hol : o.length = N := by have := oo.1; omega
  have fC := few_mat (n := N) (by omega) (rkAll o (arcS l)).1
  have fV := few_mat (n := N) (by omega) (rkAll o (arcS l)).2
  have iC : inT (mat N (rkAll o (arcS l)).1) a c := ⟨ha.1, by rw [mat_len]; exact ha.2, hc.1, by rw [mat_row_len _ ha.1 ha.2]; exact hc.2⟩
  have iV : inT (mat N (rkAll o (arcS l)).2) a c := ⟨ha.1, by rw [mat_len]; exact ha.2, hc.1, by rw [mat_row_len _ ha.1 ha.2]; exact hc.2⟩
  have key : ∃ (o' : List Int) (C V : List (List Int)) (p : Int), Ev (fun k => l30Spoil k b (p2 + 1 + 1 + 1) o (mat N (rkAll o (arcS l)).1) (mat N (rkAll o (arcS l)).2) a c d) (o', C, V, p) ∧ o'.length ≤ 9 ∧ Few C ∧ Few V ∧ 0 ≤ p ∧ p ≤ 1000 := by
    unfold l30Spoil
    by_cases d0 : d = 0
    · obtain ⟨x, ex, _, _⟩ := pick_ev (b := b) (p := p2 + 1 + 1 + 1) 5 hb (by omega) (by omega)
      exact ⟨o, tput (mat N (rkAll o (arcS l)).1) a c x, _, _, Ev.pos d0 (Ev.pos iC (Ev.bind ex (Ev.ret _))), by omega, few_tput fC iC.1 iC.2.1 x, fV, by omega, by omega⟩
    by_cases d1 : d = 1
    · obtain ⟨x, ex, _⟩ := one_ev (b := b) (p := p2 + 1 + 1 + 1) [-1, 0, 9] hb (by omega) (by omega) (by simp)
      exact ⟨o, _, tput (mat N (rkAll o (arcS l)).2) a c x, _, Ev.neg d0 (Ev.pos d1 (Ev.pos iV (Ev.bind ex (Ev.ret _)))), by omega, fC, few_tput fV iV.1 iV.2.1 x, by omega, by omega⟩
    by_cases d2 : d = 2
    · exact ⟨o ++ [0], _, _, _, Ev.neg d0 (Ev.neg d1 (Ev.pos d2 (Ev.pos (by omega) (Ev.ret _)))), by simp; omega, fC, fV, by omega, by omega⟩
    · exact ⟨o, _, _, _, Ev.neg d0 (Ev.neg d1 (Ev.neg d2 (Ev.ret _))), by omega, fC, fV, by omega, by omega⟩
  obtain ⟨o', C, V, p, e7, h1, h2, h3, h4, h5⟩ := key
  refine ⟨N, l, o', C, V, p, ?_, lk, l0, h1, h2, h3, h4, h5⟩
  unfold spec_l30Rank.f
  exact Ev.bind e1 (Ev.bind e2 (Ev.bind (Ev.of fun _ => e3) (Ev.bind e4 (Ev.bind e5 (Ev.bind e6 (Ev.bind e7 (Ev.ret _)))))))
end Go.Proofs.Ytdlaaccnaokdnaa.M
set_option linter.unusedVariables false
namespace Go.Proofs.Ytdlaaccnaokdnaa.M
open Go.RowKit Go.Proofs.Ytdlaaccnaokdnaa.P Go.Proofs.YtdlaaccnaokdnaaV.PrintWords Go.Proofs.YtdlaaccnaokdnaaV.PrintMore
theorem path_at {l : List S61} : ∀ {w : List Int} {a b c : Int}, Path l a b w c → ∀ i (hi : i < w.length), 0 ≤ w[i] ∧ w[i] < (l.length : Int) ∧ (∀ h0 : i = 0, (rd_T61 l w[i]).f0 = a) ∧ (∀ h : 0 < i, (rd_T61 l (w[i - 1]'(by omega))).f1 = (rd_T61 l w[i]).f0) ∧ (i + 1 = w.length → (rd_T61 l w[i]).f1 = b)
  | [], a, b, c, _, i, hi => absurd hi (by simp)
  | x :: w, a, b, c, h, i, hi => by
    obtain ⟨h0, h1, h2, h3⟩ := h
    cases i with
    | zero =>
      refine ⟨h0, h1, fun _ => h2, fun h => absurd h (by omega), fun h => ?_⟩
      cases w with
      | nil => exact h3.1
      | cons y w => simp at h
    | succ i =>
      have hi2 : i < w.length := by simpa using hi
      obtain ⟨g0, g1, g2, g3, g4⟩ := path_at h3 i hi2
      refine ⟨g0, g1, fun h => absurd h (by omega), fun _ => ?_, fun h => g4 (by simpa using h)⟩
      cases i with
      | zero => exact (g2 rfl).symm
      | succ i => exact g3 (by omega)
theorem path_drop {l : List S61} : ∀ {w : List Int} {a b c : Int}, Path l a b w c → ∀ i, i ≤ w.length → ∃ x s, Path l x b (w.drop i) (c - s) ∧ s = ((w.take i).map fun j => (rd_T61 l j).f2).sum
  | w, a, b, c, h, 0, _ => ⟨a, 0, by simpa using h, by simp⟩
  | [], a, b, c, h, i + 1, hi => absurd hi (by simp)
  | y :: w, a, b, c, h, i + 1, hi => by
    obtain ⟨h0, h1, h2, h3⟩ := h
    obtain ⟨x, s, g1, g2⟩ := path_drop h3 i (by simpa using hi)
    refine ⟨x, (rd_T61 l y).f2 + s, ?_, by rw [g2]; simp⟩
    rw [show c - ((rd_T61 l y).f2 + s) = c - (rd_T61 l y).f2 - s by omega]
    exact g1
theorem walkOk_path {n : Int} {l : List S61} (hok : netOkB n l = true) {w : List Int} {a b c : Int} (h : Path l a b w c) (hw : w.length ≤ 20) : Ev (fun k => impl_WalkOk.f k n l w) true := by
  obtain ⟨b1, b2, b3⟩ := rk_bounds hok
  unfold impl_WalkOk.f
  refine Ev.bind (a := true) (Ev.of fun _ => by unfold impl_NetOk.f; rw [hok]) (Ev.pos rfl ?_)
  rw [show decide ((w.length : Int) > 20) = false from decide_eq_false (by omega)]
  refine Ev.step (G := fun k => impl_WalkOk.l0 k w w (w.length : Int) 0 n l) (fun k => by simp only [impl_WalkOk.j0, Bool.false_eq_true, if_false]) ?_
  refine downto (P := fun i => Ev (fun k => impl_WalkOk.l0 k w w (w.length : Int) (i : Int) n l) true) (n := w.length) ?_ ?_
  · exact Ev.step (fun k => by simp only [impl_WalkOk.l0]; rw [if_neg (by omega)]) (Ev.ret _)
  · intro i hi hnx
    obtain ⟨g0, g1, _, g3, _⟩ := path_at h i hi
    refine Ev.step (fun k => ?_) hnx
    simp only [impl_WalkOk.l0]
    rw [if_pos (by omega), if_pos (by omega), if_pos (by omega), rd_at0 w i hi, within_le, w64 (by omega), Option.bind_some, if_pos (by simp; omega), w64s (by omega)]
    by_cases hz : 0 < i
    · rw [if_pos (by omega), show wrap64 ((i : Int) - 1) = ((i - 1 : Nat) : Int) from by rw [w64 (by omega)]; omega, if_pos (by omega), if_pos (by omega), rd_at0 w (i - 1) (by omega)]
      obtain ⟨q0, q1, _⟩ := path_at h (i - 1) (by omega)
      rw [if_pos q0, if_pos q1, if_pos g0, if_pos g1, if_pos (g3 hz)]
    · rw [if_neg (by omega)]
theorem rdT_mem {l : List S61} {i : Int} (h0 : 0 ≤ i) (h1 : i < l.length) : rd_T61 l i ∈ l := by
  obtain ⟨j, rfl⟩ := Int.eq_ofNat_of_zero_le h0
  rw [rd_T61_at l j (by omega)]
  exact List.getElem_mem _
theorem walkCost_path {n : Int} {l : List S61} (hok : netOkB n l = true) {w : List Int} {a b c : Int} (h : Path l a b w c) (hw : w.length ≤ 20) : Ev (fun k => impl_WalkCost.f k n l w) c := by
  unfold impl_WalkCost.f
  refine Ev.bind (walkOk_path hok h hw) (Ev.pos rfl (Ev.bind (a := c) ?_ (Ev.ret _)))
  unfold impl_Net_cost.f
  have hb : ∀ i, i ≤ w.length → 0 ≤ ((w.take i).map fun j => (rd_T61 l j).f2).sum ∧ ((w.take i).map fun j => (rd_T61 l j).f2).sum ≤ 99 * i := by
    intro i
    induction i with
    | zero => exact fun _ => by simp
    | succ i ih =>
      intro hi
      have := ih (by omega)
      obtain ⟨g0, g1, _⟩ := path_at h i (by omega)
      obtain ⟨_, _, _, _, _, q0, q1⟩ := rk_arc hok (rdT_mem g0 g1)
      rw [List.take_succ_eq_append_getElem (by omega), List.map_append, List.sum_append]
      simp only [List.map_cons, List.map_nil, List.sum_cons, List.sum_nil]
      omega
  have key : Ev (fun k => impl_Net_cost.l0 k (((w.take 0).map fun j => (rd_T61 l j).f2).sum) w (w.length : Int) ((0 : Nat) : Int) n l) c := by
    refine downto (P := fun i => Ev (fun k => impl_Net_cost.l0 k (((w.take i).map fun j => (rd_T61 l j).f2).sum) w (w.length : Int) (i : Int) n l) c) (n := w.length) ?_ ?_
    · obtain ⟨x, s, g1, g2⟩ := path_drop h w.length (Nat.le_refl _)
      rw [List.drop_length] at g1
      refine Ev.step (G := fun _ => some c) (fun k => ?_) (Ev.ret _)
      simp only [impl_Net_cost.l0]
      rw [if_neg (by omega), ← g2]
      exact congrArg some (by have := g1.2; omega)
    · intro i hi hnx
      obtain ⟨g0, g1, _⟩ := path_at h i hi
      obtain ⟨_, _, _, _, _, q0, q1⟩ := rk_arc hok (rdT_mem g0 g1)
      have := hb i (by omega)
      refine Ev.step (fun k => ?_) hnx
      simp only [impl_Net_cost.l0]
      rw [if_pos (by omega), if_pos (by omega), if_pos (by omega), rd_at0 w i hi, if_pos g0, if_pos g1, w64s (by omega), w64 (by omega), List.take_succ_eq_append_getElem hi, List.map_append, List.sum_append]
      simp
  simpa using key
theorem wkEnds_path {n : Int} {l : List S61} (hok : netOkB n l = true) {w : List Int} {a b c : Int} (h : Path l a b w c) (h1 : 1 ≤ w.length) (hw : w.length ≤ 20) : Ev (fun k => laws_wkEnds.f k n l w a b) true := by
  unfold laws_wkEnds.f
  refine Ev.neg (by omega) (Ev.bind (walkOk_path hok h hw) (Ev.pos rfl ?_))
  obtain ⟨g0, g1, g2, _⟩ := path_at h 0 (by omega)
  obtain ⟨q0, q1, _, _, q4⟩ := path_at h (w.length - 1) (by omega)
  rw [show (0 : Int) = ((0 : Nat) : Int) from rfl, rd_at0 w 0 (by omega), show wrap64 ((w.length : Int) - 1) = ((w.length - 1 : Nat) : Int) from by rw [w64 (by omega)]; omega, rd_at0 w (w.length - 1) (by omega)]
  refine Ev.pos (by omega) (Ev.pos g0 (Ev.pos g1 (Ev.pos (g2 rfl) (Ev.pos (by omega) (Ev.pos (by omega) (Ev.pos q0 (Ev.pos q1 ?_)))))))
  rw [q4 (by omega)]
  simp only [BEq.rfl]
  exact Ev.ret _
theorem nodeC_ev {b : List Int} (hb : Byt b) {p : Int} (h0 : 0 ≤ p) (h1 : p ≤ 800000) (n : Int) (l : List S61) : ∃ v p', Ev (fun k => spec_l30Node.f k b p n l) (v, p') ∧ p ≤ p' ∧ p' ≤ p + 2 := by
  obtain ⟨c, e1, _⟩ := pick_ev (b := b) (p := p) 16 hb h0 (by omega)
  by_cases k0 : c = 0
  · obtain ⟨v, e2, b2⟩ := one_ev (b := b) (p := p + 1) [-1, n] hb (by omega) (by omega) (by simp)
    refine ⟨v, p + 1 + 1, ?_, by omega, by omega⟩
    unfold spec_l30Node.f
    exact Ev.bind e1 (Ev.pos k0 (Ev.bind e2 (Ev.ret _)))
  · obtain ⟨v, e2, _⟩ := pick_ev (b := b) (p := p + 1) n hb (by omega) (by omega)
    refine ⟨v, p + 1 + 1, ?_, by omega, by omega⟩
    unfold spec_l30Node.f
    exact Ev.bind e1 (Ev.neg k0 (Ev.bind e2 (Ev.ret _)))
end Go.Proofs.Ytdlaaccnaokdnaa.M
namespace Go.Proofs.Ytdlaaccnaokdnaa.Pure
open Go.RowKit Go.Proofs.Ytdlaaccnaokdnaa.P Go.Proofs.Ytdlaaccnaokdnaa.M
open Go.Proofs.YtdlaaccnaokdnaaV.PrintWords (rd)
theorem FnRankArc : laws_FnRankArc.Pure := by
  intro c _ hl hw
  by_cases hC : (c.length : Int) > 1048576
  · exact ⟨0, by unfold laws_FnRankArc.f; rw [if_pos hC]⟩
  apply Ev.get
  unfold laws_FnRankArc.f
  refine Ev.neg hC ?_
  obtain ⟨t, e0, hb⟩ := open_ev (by omega) hw
  obtain ⟨n, l, o, C, V, p, e1, hok, _, hol, fC, fV, p0, p1⟩ := l30Rank_ev hb
  obtain ⟨a, p2, e2, p3, p4⟩ := nodeC_ev hb p0 (by omega) n l
  obtain ⟨b, p5, e3, p6, p7⟩ := nodeC_ev hb (p := p2) (by omega) (by omega) n l
  have hd : Ev (fun k => spec_DrawRankArc.f k c) (n, l, o, C, V, a, b) := by
    unfold spec_DrawRankArc.f spec_DrawRankNear.f
    rw [e0]
    simp only [Option.bind_some]
    exact Ev.bind (Ev.bind e1 (Ev.bind e2 (Ev.bind e3 (Ev.ret _)))) (Ev.ret _)
  obtain ⟨b1, b2, b3⟩ := rk_bounds hok
  have hs := specRankArc_ev n l o C V a b (by omega) (by omega)
  have hi := implRankArc_ev n l o C V a b (by omega) fC fV
  have hf := rkArc_few n l o C V a b
  have hwk := wkInts_self (rkArc n l o C V a b) (by omega)
  refine Ev.bind hd (Ev.bind hi (Ev.bind hs (Ev.bind hwk (Ev.pos rfl ?_))))
  show Ev (fun k => laws_FnRankArc.j0 k a b (rkArc n l o C V a b) (((rkArc n l o C V a b).length : Int) == 0) n l o C V) true
  by_cases h : RkOk n l o C V ∧ (inB n a && (inB n b && true)) = true ∧ (rkAll o (arcS l)).1 a b < 99999
  rotate_left
  · have e : rkArc n l o C V a b = [] := if_neg h
    rw [e] at hs hwk ⊢
    refine Ev.step (G := fun k => (spec_RankArc.f k n l o C V a b).bind fun t125 => ((laws_wkInts.f k [] t125).bind fun t128 => (some t128))) (fun k => by simp only [laws_FnRankArc.j0]; rfl) ?_
    exact Ev.bind hs (Ev.bind hwk (Ev.ret _))
  have e : rkArc n l o C V a b = unp (rkAll o (arcS l)).1 (rkAll o (arcS l)).2 l 9 a b := if_pos h
  obtain ⟨⟨h1, h2, h3, h4⟩, h5, h6⟩ := h
  obtain ⟨i1, i2⟩ := inB_two ⟨b1, b2⟩ h5
  have hu := rk_unp h1 h2 i1 i2 h6
  rw [← e] at hu
  generalize rkArc n l o C V a b = w at hu ⊢
  have k1 := hu.one
  obtain ⟨N, rfl⟩ := Int.eq_ofNat_of_zero_le (show 0 ≤ n by omega)
  rw [Int.toNat_natCast] at h3 h4
  have hz : ¬ (((w.length : Int) == 0) = true) := fun h => by have := eq_of_beq h; omega
  by_cases hlen : (w.length : Int) > 20
  · refine Ev.step (G := fun _ => some true) (fun k => ?_) (Ev.ret _)
    simp only [laws_FnRankArc.j0]
    rw [if_neg hz, if_pos hlen]
  refine Ev.step (G := fun k => (laws_wkEnds.f k (N : Int) l w a b).bind fun t129 => if t129 = true then (impl_WalkCost.f k (N : Int) l w).bind fun t130 => (if t130 = (rkAll o (arcS l)).1 a b then some ((decide ((w.length : Int) > 1)) == (decide ((rkAll o (arcS l)).2 a b ≥ 0))) else some false) else some false) (fun k => ?_) ?_
  · simp only [laws_FnRankArc.j0]
    rw [if_neg hz, if_neg hlen, h3, h4]
    congr 1
    funext t129
    congr 1
    congr 1
    funext t130
    rw [if_pos i1.1, mat_len, if_pos i1.2, if_pos i2.1, mat_row_len _ i1.1 i1.2, if_pos i2.2, rd_mat2 _ i1.1 i1.2 i2.1 i2.2, mat_len, if_pos i1.2, mat_row_len _ i1.1 i1.2, if_pos i2.2, rd_mat2 _ i1.1 i1.2 i2.1 i2.2]
  · refine Ev.bind (wkEnds_path hok hu.path k1 (by omega)) (Ev.pos rfl (Ev.bind (walkCost_path hok hu.path (by omega)) (Ev.pos rfl ?_)))
    refine Ev.eq (Ev.ret _) ?_
    by_cases hv : (rkAll o (arcS l)).2 a b ≥ 0
    · have := hu.two hv
      rw [decide_eq_true hv, decide_eq_true (show (w.length : Int) > 1 by omega)]
      rfl
    · have := hu.lone (by omega)
      rw [decide_eq_false hv, decide_eq_false (show ¬ (w.length : Int) > 1 by omega)]
      rfl
end Go.Proofs.Ytdlaaccnaokdnaa.Pure
