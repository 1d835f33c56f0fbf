/- The search with marks, the program's and the specification's: one answer, and the least cost. -/
import Derived.Test.YtjmpngfgfddpaaaMSeek
import Derived.Test.YtjmpngfgfddpaaaMHeur
import Derived.Test.YtjmpngfgfddpaaaPFSpecMarknear
import Derived.Test.YtjmpngfgfddpaaaPFImplMarknear
set_option linter.unusedVariables false
namespace Go.Proofs.Ytjmpngfgfddpaaa.M
open Go.RowKit Go.Proofs.Ytjmpngfgfddpaaa.P Go.Proofs.YtjmpngfgfddpaaaV.PrintWords Go.Proofs.YtjmpngfgfddpaaaV.PrintMore

/-! ### which node is next -/
def cand (d : List Int) (dn : List Bool) (B : Int → Int) (v : Int) : Prop := rd d v ≠ 99999 ∧ rdOf false dn v = false ∧ B v ≠ 99999
instance (d : List Int) (dn : List Bool) (B : Int → Int) (v : Int) : Decidable (cand d dn B v) := by unfold cand; infer_instance
def pickStep (d : List Int) (dn : List Bool) (B : Int → Int) (best : Int) (v : Nat) : Int := if cand d dn B (v : Int) then (if best < 0 then (v : Int) else (if rd d (v : Int) + B (v : Int) < rd d best + B best then (v : Int) else best)) else best
def pickS (d : List Int) (dn : List Bool) (B : Int → Int) (i : Nat) : Int := (List.range i).foldl (pickStep d dn B) (-1)
theorem pickS_succ (d : List Int) (dn : List Bool) (B : Int → Int) (i : Nat) : pickS d dn B (i + 1) = pickStep d dn B (pickS d dn B i) i := by
  unfold pickS
  rw [List.range_succ, List.foldl_append]
  rfl
theorem pickS_prop (d : List Int) (dn : List Bool) (B : Int → Int) : ∀ i : Nat, (pickS d dn B i = -1 ∧ ∀ v : Int, 0 ≤ v → v < i → ¬ cand d dn B v) ∨ (0 ≤ pickS d dn B i ∧ pickS d dn B i < i ∧ cand d dn B (pickS d dn B i) ∧ ∀ v : Int, 0 ≤ v → v < i → cand d dn B v → rd d (pickS d dn B i) + B (pickS d dn B i) ≤ rd d v + B v)
  | 0 => .inl ⟨rfl, fun v h0 h1 => by omega⟩
  | i + 1 => by
    rw [pickS_succ]
    have hlast : ∀ v : Int, 0 ≤ v → v < ((i + 1 : Nat) : Int) → v < i ∨ v = i := fun v h0 h1 => by omega
    unfold pickStep
    by_cases hc : cand d dn B (i : Int)
    · rw [if_pos hc]
      rcases pickS_prop d dn B i with ⟨e, h⟩ | ⟨e1, e2, e3, e4⟩
      · rw [if_pos (by omega)]
        refine .inr ⟨by omega, by omega, hc, fun v h0 h1 hv => ?_⟩
        rcases hlast v h0 h1 with h2 | rfl
        · exact absurd hv (h v h0 h2)
        · exact Int.le_refl _
      · rw [if_neg (by omega)]
        by_cases hl : rd d (i : Int) + B (i : Int) < rd d (pickS d dn B i) + B (pickS d dn B i)
        · rw [if_pos hl]
          refine .inr ⟨by omega, by omega, hc, fun v h0 h1 hv => ?_⟩
          rcases hlast v h0 h1 with h2 | rfl
          · have := e4 v h0 h2 hv
            omega
          · exact Int.le_refl _
        · rw [if_neg hl]
          refine .inr ⟨e1, by omega, e3, fun v h0 h1 hv => ?_⟩
          rcases hlast v h0 h1 with h2 | rfl
          · exact e4 v h0 h2 hv
          · omega
    · rw [if_neg hc]
      rcases pickS_prop d dn B i with ⟨e, h⟩ | ⟨e1, e2, e3, e4⟩
      · refine .inl ⟨e, fun v h0 h1 => ?_⟩
        rcases hlast v h0 h1 with h2 | rfl
        · exact h v h0 h2
        · exact hc
      · refine .inr ⟨e1, by omega, e3, fun v h0 h1 hv => ?_⟩
        rcases hlast v h0 h1 with h2 | rfl
        · exact e4 v h0 h2 hv
        · exact absurd hv hc
/-- how many are open -/
def und : List Bool → Nat
  | [] => 0
  | b :: l => (if b = true then 0 else 1) + und l
theorem und_set : ∀ (l : List Bool) (i : Nat), i < l.length → l.getD i false = false → und (l.set i true) + 1 = und l
  | [], i, h, _ => absurd h (Nat.not_lt_zero _)
  | b :: l, 0, _, h => by
    have : b = false := by simpa using h
    subst this
    simp [und]
    omega
  | b :: l, i + 1, h, hb => by
    have := und_set l i (by simpa using h) (by simpa using hb)
    simp only [List.set_cons_succ, und]
    omega
theorem und_rep : ∀ n, und (List.replicate n false) = n
  | 0 => rfl
  | n + 1 => by
    rw [List.replicate_succ, und, und_rep n]
    simp
    omega
theorem rdOf_set (dn : List Bool) {i : Int} (h0 : 0 ≤ i) (h1 : i < dn.length) (j : Int) (hj : 0 ≤ j) : rdOf false (dn.set i.toNat true) j = if j = i then true else rdOf false dn j := by
  obtain ⟨i, rfl⟩ := Int.eq_ofNat_of_zero_le h0
  obtain ⟨j, rfl⟩ := Int.eq_ofNat_of_zero_le hj
  simp only [rdOf, Int.toNat_natCast, List.getD_eq_getElem?_getD, List.getElem?_set]
  by_cases h : i = j
  · subst h
    rw [if_pos rfl, if_pos (by omega), if_pos rfl]
    rfl
  · rw [if_neg h, if_neg (by omega)]
/-! ### the program's rounds -/
theorem set_same {d : List Int} {i : Int} (h0 : 0 ≤ i) : d.set i.toNat (rd d i) = d := by
  obtain ⟨i, rfl⟩ := Int.eq_ofNat_of_zero_le h0
  by_cases h : i < d.length
  · rw [rd_at0 _ i h]
    simp
  · rw [List.set_eq_of_length_le (by simp; omega)]
theorem impl_l2 {n : Nat} {l : List S33} {s : Int} (hg : Good n l) (hl : l.length ≤ 16) {D : List Int} {B : Int → Int} {d : List Int} {dn : Int → Bool} (h : Seek n l s D B d dn) {v : Int} (hv : 0 ≤ v ∧ v < n) (hvf : rd d v ≤ 792) (hv0 : 0 ≤ rd d v) {ms : List Int} {t : Int} {T : List (List Int)} {dnl : List Bool} {m nodes : Int} {R : Int × Int}
    (hR : Ev (fun k => impl_MarkNear.l0 k ms t T (relaxR v l d) dnl m nodes l) R) : Ev (fun k => impl_MarkNear.l2 k ms t T d dnl m v l l.length 0 nodes l) R := by
  have hP := downto (P := fun i => Ev (fun k => impl_MarkNear.l2 k ms t T (relaxR v (l.take i) d) dnl m v l l.length (i : Int) nodes l) R) (n := l.length) ?_ ?_
  · exact hP
  · refine Ev.step (fun k => ?_) hR
    simp only [impl_MarkNear.l2]
    rw [if_neg (by omega), List.take_length]
  · intro i hi hnext
    refine Ev.step (fun k => ?_) hnext
    have ha := List.getElem_mem hi
    obtain ⟨h0, h1, h2, h3, h4, h5⟩ := hg _ ha
    obtain ⟨t1, t2, t3, _⟩ := relaxR_prop hg hv (l.take i) (fun a ha => List.mem_of_mem_take ha) h.len
    have hsucc : relaxR v (l.take (i + 1)) d = stepR v (relaxR v (l.take i) d) l[i] := by
      unfold relaxR
      rw [List.take_succ_eq_append_getElem hi, List.foldl_append]
      rfl
    rw [hsucc]
    generalize relaxR v (l.take i) d = E at t1 t2 t3
    simp only [impl_MarkNear.l2]
    rw [if_pos (by omega), if_pos (by omega), if_pos (by omega), rd_T33_at l i hi, w64s (by omega)]
    unfold stepR
    by_cases hf : l[i].f0 = v
    · rw [if_pos hf, if_pos hf, if_pos h2, if_pos (by omega), if_pos hv.1, if_pos (by omega), w64 (n := rd E v + l[i].f2) (by omega)]
      unfold mn
      by_cases hc : rd E v + l[i].f2 < rd E l[i].f1
      · rw [if_pos hc, if_pos hc]
      · rw [if_neg hc, if_neg hc, set_same h2]
    · rw [if_neg hf, if_neg hf]
theorem impl_l1 {n : Nat} {l : List S33} {nodes : Int} {T : List (List Int)} (hT : Tab n l T) (hn : n ≤ 8) {ms : List Int} (hml : ms.length ≤ 8) (hr : ∀ m ∈ ms, 0 ≤ m ∧ m < n) {t : Int} (ht : 0 ≤ t ∧ t < n) {d : List Int} (hd : d.length = n) (hdv : ∀ y : Int, 0 ≤ y → y < n → 0 ≤ rd d y ∧ rd d y ≤ 99999) {dn : List Bool} (hdn : dn.length = n) {m : Int} {R : Int × Int}
    (hR : Ev (fun k => (if pickS d dn (fun v => clampB (bndRaw T v t ms)) n < 0 then (some (99999, m)) else (if 0 ≤ pickS d dn (fun v => clampB (bndRaw T v t ms)) n then (if pickS d dn (fun v => clampB (bndRaw T v t ms)) n < (dn.length : Int) then (if pickS d dn (fun v => clampB (bndRaw T v t ms)) n = t then (if 0 ≤ t then (if t < (d.length : Int) then (some (rd d t, wrap64 (m + 1))) else (none)) else (none)) else (impl_MarkNear.l2 k ms t T d (dn.set (pickS d dn (fun v => clampB (bndRaw T v t ms)) n : Int).toNat true) (wrap64 (m + 1)) (pickS d dn (fun v => clampB (bndRaw T v t ms)) n) l (l.length : Int) 0 nodes l)) else (none)) else (none)))) R) :
    Ev (fun k => impl_MarkNear.l1 k ms t T d dn m (-1) 0 d d.length 0 nodes l) R := by
  have hri : ∀ i : Nat, i < ms.length → 0 ≤ rd ms (i : Int) ∧ rd ms (i : Int) < n := fun i hi => by rw [rd_at0 _ i hi]; exact hr _ (List.getElem_mem hi)
  have hBv : ∀ y : Int, 0 ≤ y → y < n → 0 ≤ clampB (bndRaw T y t ms) ∧ clampB (bndRaw T y t ms) ≤ 99999 := by
    intro y h0 h1
    have := bndRaw_bounds hT (x := y) (y := t) ⟨h0, h1⟩ ht hr
    unfold clampB
    split <;> omega
  have hBE : ∀ y : Int, 0 ≤ y → y < n → Ev (fun k => impl_bound.f k T ms y t) (clampB (bndRaw T y t ms)) := fun y h0 h1 => bound_ev hT hn (by omega) hri ⟨h0, h1⟩ ht
  generalize hB : (fun v => clampB (bndRaw T v t ms)) = B at hR
  have hBv' : ∀ y : Int, 0 ≤ y → y < n → 0 ≤ B y ∧ B y ≤ 99999 := by rw [← hB]; exact hBv
  have hBE' : ∀ y : Int, 0 ≤ y → y < n → Ev (fun k => impl_bound.f k T ms y t) (B y) := by rw [← hB]; exact hBE
  clear hB hBv hBE
  have hP := downto (P := fun i => Ev (fun k => impl_MarkNear.l1 k ms t T d dn m (pickS d dn B i) (if pickS d dn B i < 0 then 0 else rd d (pickS d dn B i) + B (pickS d dn B i)) d d.length (i : Int) nodes l) R) (n := n) ?_ ?_
  · exact hP
  · refine Ev.step (fun k => ?_) hR
    simp only [impl_MarkNear.l1]
    rw [if_neg (by omega)]
  · intro i hi hnext
    refine Ev.step (fun k => by simp only [impl_MarkNear.l1]; rw [if_pos (by omega), if_pos (by omega), if_pos (by omega)]) ?_
    refine Ev.bind (hBE' (i : Int) (by omega) (by omega)) ?_
    rw [pickS_succ] at hnext
    have bd := hdv (i : Int) (by omega) (by omega)
    have bB := hBv' (i : Int) (by omega) (by omega)
    have hp := pickS_prop d dn B i
    generalize pickS d dn B i = p at hnext hp
    have hj : ∀ q : Bool, (q = true ↔ ¬ cand d dn B (i : Int)) → Ev (fun k => impl_MarkNear.j3 k ms t T d dn m p (if p < 0 then 0 else rd d p + B p) (i : Int) (rd d (i : Int)) (B (i : Int)) d d.length (i : Int) q nodes l) R := by
      intro q hq
      refine Ev.step (G := fun k => impl_MarkNear.l1 k ms t T d dn m (pickStep d dn B p i) (if pickStep d dn B p i < 0 then 0 else rd d (pickStep d dn B p i) + B (pickStep d dn B p i)) d d.length ((i + 1 : Nat) : Int) nodes l) (fun k => ?_) hnext
      simp only [impl_MarkNear.j3]
      rw [w64s (by omega), w64 (n := rd d (i : Int) + B (i : Int)) (by omega)]
      unfold pickStep
      cases q with
      | true => rw [if_pos rfl, if_neg (hq.1 rfl)]
      | false =>
        have hc : cand d dn B (i : Int) := by
          by_cases hc : cand d dn B (i : Int)
          · exact hc
          · exact absurd (hq.2 hc) (by simp)
        rw [if_neg (by simp), if_pos hc]
        by_cases h0 : p < 0
        · rw [if_pos h0, if_pos h0, if_neg (by omega)]
        · rw [if_neg h0, if_neg h0, if_neg h0]
          by_cases hlt : rd d (i : Int) + B (i : Int) < rd d p + B p
          · rw [if_pos hlt, if_pos hlt, if_neg (by omega)]
          · rw [if_neg hlt, if_neg hlt, if_neg h0]
    by_cases h1 : rd d (i : Int) = 99999
    · exact Ev.pos h1 (hj true ⟨fun _ hc => hc.1 h1, fun _ => rfl⟩)
    · refine Ev.neg h1 (Ev.pos (by omega) ?_)
      by_cases h2 : rdOf false dn (i : Int) = true
      · exact Ev.pos h2 (hj true ⟨fun _ hc => (by rw [hc.2.1] at h2; cases h2), fun _ => rfl⟩)
      · refine Ev.neg h2 (hj _ ?_)
        rw [beq_iff_eq]
        constructor
        · intro e hc
          exact hc.2.2 e
        · intro hc
          by_cases e : B (i : Int) = 99999
          · exact e
          · exact absurd ⟨h1, Bool.eq_false_iff.2 h2, e⟩ hc
/-! ### the specification's -/
theorem spec_l2 {n : Nat} {l : List S33} {s : Int} (hg : Good n l) (hl : l.length ≤ 16) {D : List Int} {B : Int → Int} {d : List Int} {dn : Int → Bool} (h : Seek n l s D B d dn) {v : Int} (hv : 0 ≤ v ∧ v < n) (hvf : rd d v ≤ 792) (hv0 : 0 ≤ rd d v) {t : Int} {BL : List Int} {dnl : List Bool} {m nodes : Int} {R : Int × Int}
    (hR : Ev (fun k => spec_l12Seek.l1 k t (relaxR v l d) BL dnl m nodes l) R) : Ev (fun k => spec_l12Seek.l2 k t d BL dnl m v 0 nodes l) R := by
  have hP := downto (P := fun i => Ev (fun k => spec_l12Seek.l2 k t (relaxR v (l.take i) d) BL dnl m v (i : Int) nodes l) R) (n := l.length) ?_ ?_
  · exact hP
  · refine Ev.step (fun k => ?_) hR
    simp only [spec_l12Seek.l2]
    rw [if_neg (by omega), List.take_length]
  · intro i hi hnext
    refine Ev.step (fun k => ?_) hnext
    have ha := List.getElem_mem hi
    obtain ⟨h0, h1, h2, h3, h4, h5⟩ := hg _ ha
    obtain ⟨t1, t2, t3, _⟩ := relaxR_prop hg hv (l.take i) (fun a ha => List.mem_of_mem_take ha) h.len
    have hsucc : relaxR v (l.take (i + 1)) d = stepR v (relaxR v (l.take i) d) l[i] := by
      unfold relaxR
      rw [List.take_succ_eq_append_getElem hi, List.foldl_append]
      rfl
    rw [hsucc]
    generalize relaxR v (l.take i) d = E at t1 t2 t3
    simp only [spec_l12Seek.l2]
    rw [if_pos (by omega), if_pos (by omega), rd_T33_at l i hi, w64s (by omega)]
    unfold stepR
    by_cases hf : l[i].f0 = v
    · rw [if_pos hf, if_pos hf, if_pos hv.1, if_pos (by omega), if_pos h2, if_pos (by omega), w64 (n := rd E v + l[i].f2) (by omega)]
      by_cases hc : rd E v + l[i].f2 < rd E l[i].f1
      · rw [if_pos hc, if_pos hc]
      · rw [if_neg hc, if_neg hc]
    · rw [if_neg hf, if_neg hf]
theorem spec_next {n : Nat} {l : List S33} {d : List Int} (hd : d.length = n) (hn : n ≤ 8) (hdv : ∀ y : Int, 0 ≤ y → y < n → 0 ≤ rd d y ∧ rd d y ≤ 99999) {dn : List Bool} (hdn : dn.length = n) {B : Int → Int} {BL : List Int} (hBL : BL.length = n) (hB : ∀ y : Int, 0 ≤ y → y < n → rd BL y = B y ∧ 0 ≤ B y ∧ B y ≤ 99999) : Ev (fun k => spec_l12Next.f k n l d dn BL) (pickS d dn B n) := by
  show Ev (fun k => spec_l12Next.l0 k d dn BL (-1) 0 n l) _
  refine downto (P := fun i => Ev (fun k => spec_l12Next.l0 k d dn BL (pickS d dn B i) (i : Int) n l) (pickS d dn B n)) (n := n) ?_ ?_
  · refine Ev.step (G := fun _ => some (pickS d dn B n)) (fun k => ?_) (Ev.ret _)
    simp only [spec_l12Next.l0]
    rw [if_neg (by omega)]
  · intro i hi hnext
    refine Ev.step (fun k => ?_) hnext
    rw [pickS_succ]
    have bd := hdv (i : Int) (by omega) (by omega)
    obtain ⟨eB, bB0, bB1⟩ := hB (i : Int) (by omega) (by omega)
    have hp := pickS_prop d dn B i
    generalize pickS d dn B i = p at hp
    simp only [spec_l12Next.l0]
    rw [if_pos (by omega), if_pos (by omega), if_pos (by omega), w64s (by omega), eB]
    unfold pickStep
    by_cases h2 : rdOf false dn (i : Int) = true
    · rw [if_pos h2, if_neg (fun hc => by rw [hc.2.1] at h2; cases h2)]
    · rw [if_neg h2, if_pos (by omega)]
      by_cases h1 : rd d (i : Int) < 99999
      · rw [if_pos h1, if_pos (by omega)]
        by_cases h3 : B (i : Int) < 99999
        · rw [if_pos h3, if_pos (show cand d dn B (i : Int) from ⟨by omega, Bool.eq_false_iff.2 h2, by omega⟩)]
          by_cases h0 : p < 0
          · rw [if_pos h0, if_pos h0]
          · rcases hp with ⟨e, _⟩ | ⟨p0, p1, _, _⟩
            · omega
            · obtain ⟨eP, bP0, bP1⟩ := hB p p0 (by omega)
              have bp := hdv p p0 (by omega)
              rw [if_neg h0, if_neg h0, if_pos p0, if_pos (by omega), if_pos (by omega), eP, w64 (by omega), w64 (by omega)]
              by_cases hlt : rd d (i : Int) + B (i : Int) < rd d p + B p
              · rw [if_pos hlt, if_pos hlt]
              · rw [if_neg hlt, if_neg hlt]
        · rw [if_neg h3, if_neg (fun hc => hc.2.2 (by omega))]
      · rw [if_neg h1, if_neg (fun hc => hc.1 (by omega))]
/-! ### both searches -/
theorem both_ev {n : Nat} {l : List S33} (hg : Good n l) (hl : l.length ≤ 16) (hn : n ≤ 8) {T : List (List Int)} (hT : Tab n l T) {ms : List Int} (hml : ms.length ≤ 8) (hr : ∀ m ∈ ms, 0 ≤ m ∧ m < n) {s t : Int} (hs : 0 ≤ s ∧ s < n) (ht : 0 ≤ t ∧ t < n) {D : List Int} (hD : IsDist n l s D) {BL : List Int} (hBL : BL.length = n) (hB : ∀ y : Int, 0 ≤ y → y < n → rd BL y = clampB (bndRaw T y t ms)) :
    ∀ (u : Nat) (d : List Int) (dn : List Bool) (m : Int), und dn = u → dn.length = n → rdOf false dn t = false → 0 ≤ m → m + u ≤ 100 → Seek n l s D (fun v => clampB (bndRaw T v t ms)) d (fun v => rdOf false dn v) →
      ∃ c : Int, Ev (fun k => impl_MarkNear.l0 k ms t T d dn m n l) (rd D t, c) ∧ Ev (fun k => spec_l12Seek.l1 k t d BL dn m n l) (rd D t, c) ∧ m ≤ c ∧ c ≤ m + u ∧ (m < c ∨ rd D t = 99999) := by
  intro u
  induction u with
  | zero =>
    intro d dn m hu hdn hdt hm hmu hS
    have hH := heur_bound hg hT hr ht
    exfalso
    obtain ⟨t', rfl⟩ := Int.eq_ofNat_of_zero_le ht.1
    have h2 : dn.getD t' false = false := by simpa [rdOf] using hdt
    have := und_set dn t' (by omega) h2
    omega
  | succ u ih =>
    intro d dn m hu hdn hdt hm hmu hS
    have hH := heur_bound hg hT hr ht
    have hdv : ∀ y : Int, 0 ≤ y → y < n → 0 ≤ rd d y ∧ rd d y ≤ 99999 := by
      intro y h0 h1
      rcases hS.val y h0 h1 with e | ⟨e1, e2, _⟩ <;> omega
    have hBb : ∀ y : Int, 0 ≤ y → y < n → rd BL y = (fun v => clampB (bndRaw T v t ms)) y ∧ 0 ≤ (fun v => clampB (bndRaw T v t ms)) y ∧ (fun v => clampB (bndRaw T v t ms)) y ≤ 99999 := by
      intro y h0 h1
      refine ⟨hB y h0 h1, ?_⟩
      rcases hH.val y h0 h1 with e | e <;> simp only at e ⊢ <;> omega
    have hN := spec_next (l := l) hS.len hn hdv hdn (B := fun v => clampB (bndRaw T v t ms)) hBL hBb
    have hI := fun R => impl_l1 (nodes := (n : Int)) hT hn hml hr ht hS.len hdv hdn (m := m) (R := R)
    have hp := pickS_prop d dn (fun v => clampB (bndRaw T v t ms)) n
    generalize pickS d dn (fun v => clampB (bndRaw T v t ms)) n = p at hN hI hp
    rcases hp with ⟨rfl, hnone⟩ | ⟨p0, p1, ⟨c1, c2, c3⟩, hmin⟩
    · have hfar : rd D t = 99999 := hS.none hg hs ht hD hH hdt (fun x x0 x1 x2 x3 x4 => hnone x x0 x1 ⟨x3, x2, x4⟩)
      refine ⟨m, ?_, ?_, Int.le_refl _, by omega, .inr hfar⟩
      · rw [hfar]
        exact Ev.step (fun k => by simp only [impl_MarkNear.l0]) (hI _ (Ev.pos (by decide) (Ev.ret _)))
      · rw [hfar]
        refine Ev.step (fun k => by simp only [spec_l12Seek.l1]; rfl) ?_
        exact Ev.bind hN (Ev.pos (by decide) (Ev.ret _))
    · obtain ⟨l1, l2⟩ := hS.least hg hs hD hH ⟨p0, p1⟩ c2 c1 c3 (fun x x0 x1 x2 x3 x4 => hmin x x0 x1 ⟨x3, x2, x4⟩)
      have hw : wrap64 (m + 1) = m + 1 := w64 (by omega)
      have hlen := hS.len
      by_cases hpt : p = t
      · subst hpt
        refine ⟨m + 1, ?_, ?_, by omega, by omega, .inl (by omega)⟩
        · refine Ev.step (fun k => by simp only [impl_MarkNear.l0]) (hI _ (Ev.neg (by omega) (Ev.pos p0 (Ev.pos (by omega) (Ev.pos rfl (Ev.pos p0 (Ev.pos (by omega) ?_)))))))
          rw [hw, l1]
          exact Ev.ret _
        · refine Ev.step (fun k => by simp only [spec_l12Seek.l1]; rfl) ?_
          refine Ev.bind hN (Ev.neg (by omega) (Ev.pos p0 (Ev.pos (by omega) (Ev.pos rfl (Ev.pos p0 (Ev.pos (by omega) ?_))))))
          rw [hw, l1]
          exact Ev.ret _
      · have hD' := hD.leFar p0 p1
        obtain ⟨p', rfl⟩ := Int.eq_ofNat_of_zero_le p0
        have hund := und_set dn p' (by omega) (by simpa [rdOf] using c2)
        have hset := fun (j : Int) (hj : 0 ≤ j) => rdOf_set dn (i := (p' : Int)) p0 (by omega) j hj
        simp only [Int.toNat_natCast] at hset hI
        obtain ⟨c, e1, e2, e3, e4, e5⟩ := ih (relaxR (p' : Int) l d) (dn.set p' true) (m + 1) (by omega) (by rw [List.length_set]; exact hdn) (by rw [hset t ht.1, if_neg (fun e => hpt e.symm)]; exact hdt) (by omega) (by omega)
          (hS.next hg hD ⟨p0, p1⟩ hs l1 l2 (fun w h0 h1 hw2 => by
            simp only [hset w h0] at hw2
            by_cases e : w = (p' : Int)
            · exact .inl e
            · rw [if_neg e] at hw2
              exact .inr hw2))
        refine ⟨c, ?_, ?_, by omega, by omega, .inl (by omega)⟩
        · refine Ev.step (fun k => by simp only [impl_MarkNear.l0]) (hI _ (Ev.neg (by omega) (Ev.pos p0 (Ev.pos (by omega) (Ev.neg hpt ?_)))))
          rw [hw]
          exact impl_l2 hg hl hS ⟨p0, p1⟩ (by have := hD'.2.2 (by omega); omega) (by omega) e1
        · refine Ev.step (fun k => by simp only [spec_l12Seek.l1]; rfl) ?_
          refine Ev.bind hN (Ev.neg (by omega) (Ev.pos p0 (Ev.pos (by omega) (Ev.neg hpt ?_))))
          rw [hw]
          simp only [Int.toNat_natCast]
          exact spec_l2 hg hl hS ⟨p0, p1⟩ (by have := hD'.2.2 (by omega); omega) (by omega) e2
end Go.Proofs.Ytjmpngfgfddpaaa.M
