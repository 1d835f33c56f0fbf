/- RankArc on both sides: an arc of a hierarchy as arcs of the net, and what these cost; RankArc: what both sides tell. -/
import Derived.Test.YtdlaaccnaokdnaaMRankK
import Derived.Test.YtdlaaccnaokdnaaMRankU
import Derived.Test.YtdlaaccnaokdnaaHUnp
import Derived.Test.YtdlaaccnaokdnaaPFSpecL8Plain
import Derived.Test.YtdlaaccnaokdnaaPFImplRankarc
import Derived.Test.YtdlaaccnaokdnaaPFSpecRankarc
set_option linter.unusedVariables false
namespace Go.Proofs.Ytdlaaccnaokdnaa.M
open Go.RowKit Go.Proofs.Ytdlaaccnaokdnaa.P Go.Proofs.YtdlaaccnaokdnaaV.PrintWords Go.Proofs.YtdlaaccnaokdnaaV.PrintMore
theorem bf_idx {o : List Int} (hn : o.Nodup) {x y : Int} (h : Bf o x y) : o.idxOf x < o.idxOf y := by
  have hne := h.ne hn
  obtain ⟨p, q, rfl, hy⟩ := h
  have h1 := List.nodup_append.1 hn
  have hx : x ∉ p := fun hx => h1.2.2 x hx x (by simp) rfl
  have hyp : y ∉ p := fun hp => h1.2.2 y hp y (by simp [hy]) rfl
  rw [List.idxOf_append, List.idxOf_append, if_neg hx, if_neg hyp, List.idxOf_cons_self]
  have e : List.idxOf y (x :: q) = List.idxOf y q + 1 := by rw [List.idxOf_cons]; rw [beq_false_of_ne hne]; rfl
  omega
/-- arcs of the net, one behind the other, from a to b, that cost c -/
def Path (l : List S61) : Int → Int → List Int → Int → Prop
  | a, b, [], c => a = b ∧ c = 0
  | a, b, i :: w, c => 0 ≤ i ∧ i < (l.length : Int) ∧ (rd_T61 l i).f0 = a ∧ Path l (rd_T61 l i).f1 b w (c - (rd_T61 l i).f2)
theorem Path.append {l : List S61} : ∀ {w w' : List Int} {a m b c c' : Int}, Path l a m w c → Path l m b w' c' → Path l a b (w ++ w') (c + c')
  | [], w', a, m, b, c, c', h, h' => by
    obtain ⟨rfl, rfl⟩ := h
    rw [Int.zero_add]; exact h'
  | i :: w, w', a, m, b, c, c', h, h' => by
    obtain ⟨h0, h1, h2, h3⟩ := h
    refine ⟨h0, h1, h2, ?_⟩
    have := h3.append h'
    rwa [show c - (rd_T61 l i).f2 + c' = c + c' - (rd_T61 l i).f2 by omega] at this
theorem arcG_val2 (l : List S61) (a b : Int) : arcG l a b = 99999 ∨ ∃ x ∈ l, x.f0 = a ∧ x.f1 = b ∧ arcG l a b = x.f2 := by
  have : ∀ j, j ≤ l.length → arcG (l.take j) a b = 99999 ∨ ∃ x ∈ l, x.f0 = a ∧ x.f1 = b ∧ arcG (l.take j) a b = x.f2 := by
    intro j
    induction j with
    | zero => exact fun _ => .inl rfl
    | succ j ih =>
      intro hj
      have := ih (by omega)
      rw [arcG_succ l j (by omega)]
      generalize arcG (l.take j) = F at this ⊢
      unfold upd
      by_cases h2 : a = l[j].f0 ∧ b = l[j].f1
      · rw [if_pos h2, ← h2.1, ← h2.2]
        unfold mn
        by_cases h3 : l[j].f2 < F a b
        · rw [if_pos h3]
          exact .inr ⟨l[j], List.getElem_mem _, h2.1.symm, h2.2.symm, rfl⟩
        · rwa [if_neg h3]
      · rwa [if_neg h2]
  have h2 := this l.length (Nat.le_refl _)
  rwa [List.take_length] at h2
/-- the arcs that an arc of the hierarchy stands for -/
def unp (C V : Int → Int → Int) (l : List S61) : Nat → Int → Int → List Int
  | 0, _, _ => []
  | k + 1, a, b => if V a b ≥ 0 then unp C V l k a (V a b) ++ unp C V l k (V a b) b else [idxOf (arcQ a b (C a b)) l]
theorem arcQ_at {l : List S61} {a b c : Int} (h : ∃ x ∈ l, x.f0 = a ∧ x.f1 = b ∧ c = x.f2) : ∃ i, ∃ hi : i < l.length, idxOf (arcQ a b c) l = (i : Int) ∧ l[i].f0 = a ∧ l[i].f1 = b ∧ l[i].f2 = c ∧ ∀ j (hj : j < l.length), j < i → ¬ (l[j].f0 = a ∧ l[j].f1 = b ∧ l[j].f2 = c) := by
  cases hf : l.findIdx? (arcQ a b c) with
  | none =>
    rw [List.findIdx?_eq_none_iff] at hf
    obtain ⟨x, hx, h0, h1, h2⟩ := h
    have := hf x hx
    simp [arcQ, h0, h1, h2] at this
  | some i =>
    obtain ⟨hi, hq, hj⟩ := List.findIdx?_eq_some_iff_getElem.1 hf
    simp only [arcQ, Bool.and_eq_true, beq_iff_eq] at hq
    refine ⟨i, hi, by simp [idxOf, hf], hq.1, hq.2.1, hq.2.2, fun j hjl hji hh => ?_⟩
    have := hj j hji
    simp [arcQ, hh.1, hh.2.1, hh.2.2] at this
theorem l8Find_ev {l : List S61} (hl : l.length ≤ 16) {N : Nat} (hN : N ≤ 8) (C : Int → Int → Int) {a b : Int} (a0 : 0 ≤ a) (a1 : a < N) (b0 : 0 ≤ b) (b1 : b < N) {i : Nat} (hi : i < l.length) (hq : l[i].f0 = a ∧ l[i].f1 = b ∧ l[i].f2 = C a b) (hno : ∀ j (hj : j < l.length), j < i → ¬ (l[j].f0 = a ∧ l[j].f1 = b ∧ l[j].f2 = C a b)) (n : Int) (o : List Int) (v : List (List Int)) :
    Ev (fun k => spec_l8Plain.l0 k a b 0 n l o (mat N C) v) [(i : Int)] := by
  refine downto (P := fun j => Ev (fun k => spec_l8Plain.l0 k a b (j : Int) n l o (mat N C) v) [(i : Int)]) (n := i) ?_ ?_
  · refine Ev.step (G := fun _ => some [(i : Int)]) (fun k => ?_) (Ev.ret _)
    simp only [spec_l8Plain.l0]
    rw [if_pos (by omega), if_pos (by omega), rd_T61_at l i hi, if_pos hq.1, if_pos hq.2.1, if_pos a0, if_pos (by rw [mat_len]; exact a1), if_pos b0, if_pos (by rw [mat_row_len _ a0 a1]; exact b1), rd_mat2 C a0 a1 b0 b1, if_pos hq.2.2]
  · intro j hj h
    refine Ev.step (fun k => ?_) h
    have hjl : j < l.length := by omega
    have := hno j hjl hj
    simp only [spec_l8Plain.l0]
    rw [if_pos (by omega), if_pos (by omega), rd_T61_at l j hjl, w64s (by omega)]
    by_cases h0 : l[j].f0 = a
    rotate_left
    · rw [if_neg h0]
    rw [if_pos h0]
    by_cases h1 : l[j].f1 = b
    rotate_left
    · rw [if_neg h1]
    rw [if_pos h1, if_pos a0, if_pos (by rw [mat_len]; exact a1), if_pos b0, if_pos (by rw [mat_row_len _ a0 a1]; exact b1), rd_mat2 C a0 a1 b0 b1, if_neg (fun h2 => this ⟨h0, h1, h2⟩)]
/-- what is known of an arc of the hierarchy -/
structure Unp (n : Int) (l : List S61) (o : List Int) (C V : Int → Int → Int) (a b : Int) (d : Nat) (w : List Int) : Prop where
  path : Path l a b w (C a b)
  one : 1 ≤ w.length
  two : V a b ≥ 0 → 2 ≤ w.length
  lone : V a b < 0 → w.length = 1
  few : w.length ≤ 2 ^ d
  impl : Ev (fun k => impl_Rank_unpack.f k o (mat n.toNat C) (mat n.toNat V) n l a b) w
  spec : Ev (fun k => spec_l8Plain.f k n l o (mat n.toNat C) (mat n.toNat V) a b) w
theorem unp_all {n : Int} {l : List S61} {o : List Int} (hok : netOkB n l = true) (ho : Ord o n) (C V : Int → Int → Int) (hC : C = (rkAll o (arcS l)).1) (hV : V = (rkAll o (arcS l)).2) : ∀ (d : Nat), d ≤ 8 → ∀ a b : Int, 0 ≤ a ∧ a < n → 0 ≤ b ∧ b < n → C a b < 99999 → (V a b ≥ 0 → o.idxOf (V a b) < d) → Unp n l o C V a b d (unp C V l (d + 1) a b) := by
  obtain ⟨b1, b2, b3⟩ := rk_bounds hok
  obtain ⟨N, rfl⟩ := Int.eq_ofNat_of_zero_le (show 0 ≤ n by omega)
  have hN : N ≤ 8 := by omega
  have hov : ∀ a b : Int, (C a b = arcG l a b ∧ V a b = -1) ∨ (a ≠ b ∧ Bf o (V a b) a ∧ Bf o (V a b) b ∧ C a b = C a (V a b) + C (V a b) b) := by
    subst hC; subst hV
    exact rkAll_over o ho.2.1 (arcS l)
  have hbx : ∀ a b : Int, 0 ≤ C a b := by
    subst hC
    exact fun a b => (rkAll_box o (arcG_box hok) a b).1
  clear hC hV
  intro d
  induction d with
  | zero =>
    intro _ a b ha hb hc hd
    have hv : ¬ V a b ≥ 0 := fun h => absurd (hd h) (by omega)
    have hu : unp C V l (0 + 1) a b = [idxOf (arcQ a b (C a b)) l] := by simp only [unp]; rw [if_neg hv]
    rw [hu]
    have hcv : C a b = arcG l a b := by
      rcases hov a b with h | ⟨_, h, _⟩
      · exact h.1
      · exact absurd (ho.2.2 _ h.mem.1).1 hv
    obtain ⟨i, hi, e, q0, q1, q2, hno⟩ := arcQ_at (l := l) (a := a) (b := b) (c := C a b) (by
      rcases arcG_val2 l a b with h | ⟨x, hx, h0, h1, h2⟩
      · omega
      · exact ⟨x, hx, h0, h1, hcv.trans h2⟩)
    rw [e]
    refine ⟨⟨by omega, by omega, by rw [rd_T61_at l i hi]; exact q0, by rw [rd_T61_at l i hi]; exact q1, by rw [rd_T61_at l i hi, q2]; omega⟩, by simp, fun h => absurd h hv, fun _ => rfl, by simp, ?_, ?_⟩
    · refine Ev.step (G := fun _ => some [(i : Int)]) (fun k => ?_) (Ev.ret _)
      simp only [impl_Rank_unpack.f, Int.toNat_natCast]
      rw [if_pos ⟨ha.1, by rw [mat_len]; exact ha.2, hb.1, by rw [mat_row_len _ ha.1 ha.2]; exact hb.2⟩, rd_mat2 V ha.1 ha.2 hb.1 hb.2, if_neg hv, if_pos ⟨by rw [mat_len]; exact ha.2, by rw [mat_row_len _ ha.1 ha.2]; exact hb.2⟩, rd_mat2 C ha.1 ha.2 hb.1 hb.2, e]
    · refine Ev.step (fun k => ?_) (l8Find_ev b3 hN C ha.1 ha.2 hb.1 hb.2 hi ⟨q0, q1, q2⟩ hno (N : Int) o (mat N V))
      simp only [spec_l8Plain.f, Int.toNat_natCast]
      rw [if_pos ha.1, if_pos (by rw [mat_len]; exact ha.2), if_pos hb.1, if_pos (by rw [mat_row_len _ ha.1 ha.2]; exact hb.2), rd_mat2 V ha.1 ha.2 hb.1 hb.2, if_neg hv]
  | succ d ih =>
    intro hd8 a b ha hb hc hd
    by_cases hv : V a b ≥ 0
    rotate_left
    · have h0 := ih (by omega) a b ha hb hc (fun h => absurd h hv)
      have hu : unp C V l (d + 1 + 1) a b = unp C V l (d + 1) a b := by simp only [unp]; rw [if_neg hv, if_neg hv]
      rw [hu]
      exact ⟨h0.path, h0.one, h0.two, h0.lone, Nat.le_trans h0.few (Nat.pow_le_pow_right (by omega) (by omega)), h0.impl, h0.spec⟩
    rcases hov a b with h | ⟨hab, f1, f2, hs⟩
    · omega
    obtain ⟨m, hm⟩ : ∃ m, V a b = m := ⟨_, rfl⟩
    have hu : unp C V l (d + 1 + 1) a b = unp C V l (d + 1) a m ++ unp C V l (d + 1) m b := by rw [unp, if_pos hv, hm]
    rw [hu]
    rw [hm] at f1 f2 hs
    have hmN := ho.2.2 m f1.mem.1
    have c1 := hbx a m
    have c2 := hbx m b
    have hmd := hd hv
    rw [hm] at hmd
    have key : ∀ x y : Int, (x = m ∨ y = m) → V x y ≥ 0 → o.idxOf (V x y) < d := fun x y hxy h => by
      rcases hov x y with h2 | ⟨_, g1, g2, _⟩
      · omega
      rcases hxy with rfl | rfl
      · have := bf_idx ho.2.1 g1; omega
      · have := bf_idx ho.2.1 g2; omega
    have u1 := ih (by omega) a m ha hmN (by omega) (key a m (.inr rfl))
    have u2 := ih (by omega) m b hmN hb (by omega) (key m b (.inl rfl))
    generalize unp C V l (d + 1) a m = x at u1 ⊢
    generalize unp C V l (d + 1) m b = y at u2 ⊢
    have k1 := u1.one; have k2 := u2.one; have k3 := u1.few; have k4 := u2.few
    have hp : 2 ^ (d + 1) = 2 ^ d + 2 ^ d := by rw [Nat.pow_succ]; omega
    have hp8 : 2 ^ d ≤ 256 := Nat.le_trans (Nat.pow_le_pow_right (by omega) (show d ≤ 8 by omega)) (by decide)
    refine ⟨?_, by rw [List.length_append]; omega, fun _ => by rw [List.length_append]; omega, fun h => by omega, by rw [List.length_append]; omega, ?_, ?_⟩
    · rw [hs]
      exact u1.path.append u2.path
    · refine Ev.step (G := fun k => (impl_Rank_unpack.f k o (mat N C) (mat N V) (N : Int) l a m).bind fun x => (impl_Rank_unpack.f k o (mat N C) (mat N V) (N : Int) l m b).bind fun y => if 1 ≤ x.length + y.length ∧ x.length + y.length ≤ 1048576 then some (x ++ y) else none) (fun k => ?_) ?_
      · simp only [impl_Rank_unpack.f, Int.toNat_natCast]
        rw [if_pos ⟨ha.1, by rw [mat_len]; exact ha.2, hb.1, by rw [mat_row_len _ ha.1 ha.2]; exact hb.2⟩, rd_mat2 V ha.1 ha.2 hb.1 hb.2, if_pos hv, hm]
      · have i1 := u1.impl
        have i2 := u2.impl
        rw [Int.toNat_natCast] at i1 i2
        exact Ev.bind i1 (Ev.bind i2 (Ev.pos (by omega) (Ev.ret _)))
    · refine Ev.step (G := fun k => (spec_l8Plain.f k (N : Int) l o (mat N C) (mat N V) a m).bind fun x => (spec_l8Plain.f k (N : Int) l o (mat N C) (mat N V) m b).bind fun y => if x.length + y.length < 17592186044416 then some (x ++ y) else none) (fun k => ?_) ?_
      · simp only [spec_l8Plain.f, Int.toNat_natCast]
        rw [if_pos ha.1, if_pos (by rw [mat_len]; exact ha.2), if_pos hb.1, if_pos (by rw [mat_row_len _ ha.1 ha.2]; exact hb.2), rd_mat2 V ha.1 ha.2 hb.1 hb.2, if_pos hv, hm]
      · have i1 := u1.spec
        have i2 := u2.spec
        rw [Int.toNat_natCast] at i1 i2
        exact Ev.bind i1 (Ev.bind i2 (Ev.pos (by omega) (Ev.ret _)))
end Go.Proofs.Ytdlaaccnaokdnaa.M
set_option linter.unusedVariables false
namespace Go.Proofs.Ytdlaaccnaokdnaa.M
open Go.RowKit Go.Proofs.Ytdlaaccnaokdnaa.P Go.Proofs.YtdlaaccnaokdnaaV.PrintWords Go.Proofs.YtdlaaccnaokdnaaV.PrintMore
def rkArc (n : Int) (l : List S61) (o : List Int) (c v : List (List Int)) (a b : Int) : List Int := if RkOk n l o c v ∧ (inB n a && (inB n b && true)) = true ∧ (rkAll o (arcS l)).1 a b < 99999 then unp (rkAll o (arcS l)).1 (rkAll o (arcS l)).2 l 9 a b else []
theorem rk_diag {n : Int} {l : List S61} {o : List Int} (hok : netOkB n l = true) (ho : Ord o n) (a : Int) : (rkAll o (arcS l)).1 a a = 99999 := by
  rcases rkAll_over o ho.2.1 (arcS l) a a with h | ⟨h, _⟩
  · rw [h.1]
    rcases arcG_val2 l a a with h2 | ⟨x, hx, h0, h1, _⟩
    · exact h2
    · exact absurd (h0.trans h1.symm) (rk_arc hok hx).2.2.2.2.1
  · exact absurd rfl h
theorem rk_unp {n : Int} {l : List S61} {o : List Int} (hok : netOkB n l = true) (ho : Ord o n) {a b : Int} (ha : 0 ≤ a ∧ a < n) (hb : 0 ≤ b ∧ b < n) (hc : (rkAll o (arcS l)).1 a b < 99999) : Unp n l o (rkAll o (arcS l)).1 (rkAll o (arcS l)).2 a b 8 (unp (rkAll o (arcS l)).1 (rkAll o (arcS l)).2 l 9 a b) := by
  refine unp_all hok ho _ _ rfl rfl 8 (Nat.le_refl _) a b ha hb hc (fun h => ?_)
  obtain ⟨b1, b2, b3⟩ := rk_bounds hok
  rcases rkAll_over o ho.2.1 (arcS l) a b with h2 | ⟨_, g1, _, _⟩
  · have h3 : (rkAll o (arcS l)).2 a b = -1 := h2.2
    omega
  · have h4 := List.idxOf_lt_length_of_mem g1.mem.1
    have := ho.1
    omega
theorem inB_two {n a b : Int} (hn : 1 ≤ n ∧ n ≤ 8) (h : (inB n a && (inB n b && true)) = true) : (0 ≤ a ∧ a < n) ∧ (0 ≤ b ∧ b < n) := by
  unfold inB at h
  rw [w64 (by omega)] at h
  simp at h
  omega
theorem rkArc_few (n : Int) (l : List S61) (o : List Int) (c v : List (List Int)) (a b : Int) : (rkArc n l o c v a b).length ≤ 256 := by
  unfold rkArc
  by_cases h : RkOk n l o c v ∧ (inB n a && (inB n b && true)) = true ∧ (rkAll o (arcS l)).1 a b < 99999
  · rw [if_pos h]
    obtain ⟨⟨h1, h2, _⟩, h3, h4⟩ := h
    obtain ⟨b1, b2, b3⟩ := rk_bounds h1
    obtain ⟨i1, i2⟩ := inB_two ⟨b1, b2⟩ h3
    exact (rk_unp h1 h2 i1 i2 h4).few
  · rw [if_neg h]; simp
theorem implRankArc_ev (n : Int) (l : List S61) (o : List Int) (c v : List (List Int)) (a b : Int) (ho : o.length ≤ 1048576) (hc : Few c) (hv : Few v) : Ev (fun k => impl_RankArc.f k n l o c v a b) (rkArc n l o c v a b) := by
  have hno : Ev (fun k => impl_RankArc.j0 k a b true n l o c v) [] := Ev.step (G := fun _ => some []) (fun k => by simp only [impl_RankArc.j0, if_true]) (Ev.ret _)
  unfold impl_RankArc.f
  refine Ev.bind (implRankOk_ev n l o c v ho hc hv) ?_
  by_cases h : RkOk n l o c v
  rotate_left
  · have e : rkArc n l o c v a b = [] := if_neg (fun h2 => h h2.1)
    rw [e]
    exact Ev.neg (by simp [h]) hno
  refine Ev.pos (by simp [h]) ?_
  refine Ev.bind (a := (inB n a && (inB n b && true))) (Ev.of fun _ => rfl) ?_
  by_cases h2 : (inB n a && (inB n b && true)) = true
  rotate_left
  · have e : rkArc n l o c v a b = [] := if_neg (fun h3 => h2 h3.2.1)
    rw [e]
    exact Ev.neg h2 hno
  refine Ev.pos h2 ?_
  have hr := h
  obtain ⟨h1, h3, h4, h5⟩ := h
  obtain ⟨b1, b2, b3⟩ := rk_bounds h1
  obtain ⟨i1, i2⟩ := inB_two ⟨b1, b2⟩ h2
  obtain ⟨N, rfl⟩ := Int.eq_ofNat_of_zero_le (show 0 ≤ n by omega)
  rw [Int.toNat_natCast] at h4 h5
  have hbx := rkAll_box o (arcG_box h1) a b
  have e : Ev (fun k => impl_RankArc.j0 k a b ((rkAll o (arcS l)).1 a b == 99999) (N : Int) l o c v) (rkArc (N : Int) l o c v a b) := by
    by_cases h6 : (rkAll o (arcS l)).1 a b = 99999
    · have e : rkArc (N : Int) l o c v a b = [] := if_neg (fun h3 => by omega)
      rw [e, h6]
      exact hno
    · have e : rkArc (N : Int) l o c v a b = unp (rkAll o (arcS l)).1 (rkAll o (arcS l)).2 l 9 a b := if_pos ⟨hr, h2, by omega⟩
      rw [e, show ((rkAll o (arcS l)).1 a b == 99999) = false by simp [h6]]
      have hu := rk_unp h1 h3 i1 i2 (by omega)
      have hi := hu.impl
      rw [Int.toNat_natCast, ← h4, ← h5] at hi
      refine Ev.step (G := fun k => (impl_Rank_unpack.f k o c v (N : Int) l a b).bind fun t110 => ((slices_Clip_int_int.f t110).bind fun t113 => (some t113))) (fun k => by simp only [impl_RankArc.j0, Bool.false_eq_true, if_false]) (Ev.bind hi (Ev.of fun _ => rfl))
  refine Ev.pos i1.1 (Ev.pos (by rw [h4, mat_len]; exact i1.2) (Ev.pos i2.1 (Ev.pos (by rw [h4, mat_row_len _ i1.1 i1.2]; exact i2.2) ?_)))
  rw [show rd (rd_L5 c a) b = (rkAll o (arcS l)).1 a b from by rw [h4]; exact rd_mat2 _ i1.1 i1.2 i2.1 i2.2]
  exact e
theorem specRankArc_ev (n : Int) (l : List S61) (o : List Int) (c v : List (List Int)) (a b : Int) (hl : l.length ≤ 1048576) (ho : o.length ≤ 1048576) : Ev (fun k => spec_RankArc.f k n l o c v a b) (rkArc n l o c v a b) := by
  unfold spec_RankArc.f
  refine Ev.bind (specRankOk_ev n l o c v hl ho) ?_
  by_cases h : RkOk n l o c v
  rotate_left
  · have e : rkArc n l o c v a b = [] := if_neg (fun h2 => h h2.1)
    rw [e]
    exact Ev.neg (by simp [h]) (Ev.ret _)
  refine Ev.pos (by simp [h]) ?_
  rw [l1In_inB, l1In_inB]
  simp only [Option.bind_some]
  by_cases ha : inB n a = true
  rotate_left
  · have e : rkArc n l o c v a b = [] := if_neg (fun h2 => by simp [ha] at h2)
    rw [e]
    exact Ev.neg ha (Ev.ret _)
  refine Ev.pos ha ?_
  by_cases hb : inB n b = true
  rotate_left
  · have e : rkArc n l o c v a b = [] := if_neg (fun h2 => by simp [hb] at h2)
    rw [e]
    exact Ev.neg hb (Ev.ret _)
  refine Ev.pos hb ?_
  have h2 : (inB n a && (inB n b && true)) = true := by simp [ha, hb]
  have hr := h
  obtain ⟨h1, h3, h4, h5⟩ := h
  obtain ⟨b1, b2, b3⟩ := rk_bounds h1
  obtain ⟨i1, i2⟩ := inB_two ⟨b1, b2⟩ h2
  obtain ⟨N, rfl⟩ := Int.eq_ofNat_of_zero_le (show 0 ≤ n by omega)
  rw [Int.toNat_natCast] at h4 h5
  by_cases hab : a = b
  · have e : rkArc (N : Int) l o c v a b = [] := if_neg (fun h2 => by have := rk_diag h1 h3 a; rw [← hab] at h2; omega)
    rw [e]
    exact Ev.pos hab (Ev.ret _)
  refine Ev.neg hab (Ev.pos i1.1 (Ev.pos (by rw [h4, mat_len]; exact i1.2) (Ev.pos i2.1 (Ev.pos (by rw [h4, mat_row_len _ i1.1 i1.2]; exact i2.2) ?_))))
  rw [show rd (rd_L5 c a) b = (rkAll o (arcS l)).1 a b from by rw [h4]; exact rd_mat2 _ i1.1 i1.2 i2.1 i2.2]
  by_cases h6 : (rkAll o (arcS l)).1 a b ≥ 99999
  · have e : rkArc (N : Int) l o c v a b = [] := if_neg (fun h3 => by omega)
    rw [e]
    exact Ev.pos h6 (Ev.ret _)
  · have e : rkArc (N : Int) l o c v a b = unp (rkAll o (arcS l)).1 (rkAll o (arcS l)).2 l 9 a b := if_pos ⟨hr, h2, by omega⟩
    rw [e]
    have hi := (rk_unp h1 h3 i1 i2 (by omega)).spec
    rw [Int.toNat_natCast, ← h4, ← h5] at hi
    exact Ev.neg h6 (Ev.bind hi (Ev.ret _))
end Go.Proofs.Ytdlaaccnaokdnaa.M
