/- Timetables, plain: what can be ridden with so many trips, the earliest arrivals, and that they are told once. -/
import Derived.Test.YtcklifkbodmoaaaMEv
set_option linter.unusedVariables false
namespace Go.Proofs.Ytcklifkbodmoaaa.M
open Go.RowKit Go.Proofs.Ytcklifkbodmoaaa.P Go.Proofs.YtcklifkbodmoaaaV.PrintWords Go.Proofs.YtcklifkbodmoaaaV.PrintMore
abbrev Cn := S32
def cn (l : List Cn) (k : Nat) : Cn := l.getD k z32
theorem rdT_cn (l : List Cn) (k : Nat) : rd_T32 l (k : Int) = cn l k := by simp [rd_T32, cn]

/-- the connection of the same trip ahead of one -/
def befAt (l : List Cn) (k : Nat) : Nat → Option Nat
  | 0 => none
  | j + 1 => if (cn l j).f4 = (cn l k).f4 then some j else befAt l k j
def bef (l : List Cn) (k : Nat) : Option Nat := befAt l k k
theorem befAt_some {l : List Cn} {k i : Nat} : ∀ {j : Nat}, befAt l k j = some i → i < j ∧ (cn l i).f4 = (cn l k).f4 ∧ ∀ m, i < m → m < j → (cn l m).f4 ≠ (cn l k).f4
  | 0, h => by cases h
  | j + 1, h => by
    unfold befAt at h
    split at h
    · rename_i e
      cases h
      exact ⟨by omega, e, fun m h1 h2 => by omega⟩
    · rename_i e
      obtain ⟨a, b, c⟩ := befAt_some h
      refine ⟨by omega, b, fun m h1 h2 => ?_⟩
      by_cases hm : m = j
      · subst hm; exact e
      · exact c m h1 (by omega)
theorem befAt_none {l : List Cn} {k : Nat} : ∀ {j : Nat}, befAt l k j = none → ∀ m, m < j → (cn l m).f4 ≠ (cn l k).f4
  | 0, _ => fun m h => by omega
  | j + 1, h => by
    unfold befAt at h
    split at h
    · cases h
    · rename_i e
      intro m hm
      by_cases hj : m = j
      · subst hj; exact e
      · exact befAt_none h m (by omega)

/-- a plan as it should be -/
structure Ok (stops ch : Int) (l : List Cn) : Prop where
  s1 : 1 ≤ stops
  s8 : stops ≤ 8
  c0 : 0 ≤ ch
  c1 : ch ≤ 20
  len : l.length ≤ 16
  at_ : ∀ k, k < l.length → 0 ≤ (cn l k).f0 ∧ (cn l k).f0 < stops ∧ 0 ≤ (cn l k).f1 ∧ (cn l k).f1 < stops ∧ (cn l k).f0 ≠ (cn l k).f1 ∧ 0 ≤ (cn l k).f2 ∧ (cn l k).f2 ≤ (cn l k).f3 ∧ (cn l k).f3 ≤ 199 ∧ 0 ≤ (cn l k).f4 ∧ (cn l k).f4 ≤ 5

/-- connection k can be taken with n trips -/
inductive Ont (l : List Cn) (ch src t0 : Int) : Nat → Nat → Prop
  | base {n k : Nat} (hn : 1 ≤ n) (hk : k < l.length) (hs : (cn l k).f0 = src) (ht : t0 ≤ (cn l k).f2) : Ont l ch src t0 n k
  | ride {n k i : Nat} (hk : k < l.length) (hb : bef l k = some i) (h : Ont l ch src t0 n i) : Ont l ch src t0 n k
  | step {n k i : Nat} (hk : k < l.length) (hi : i < l.length) (ht : (cn l i).f1 = (cn l k).f0) (hc : (cn l i).f3 + ch ≤ (cn l k).f2) (h : Ont l ch src t0 n i) : Ont l ch src t0 (n + 1) k
section
variable {l : List Cn} {stops ch src t0 : Int}
theorem Ont.lt {n k : Nat} (h : Ont l ch src t0 n k) : k < l.length := by
  cases h <;> assumption
theorem Ont.mono {n m k : Nat} (h : Ont l ch src t0 n k) (hm : n ≤ m) : Ont l ch src t0 m k := by
  induction h generalizing m with
  | base hn hk hs ht => exact .base (by omega) hk hs ht
  | ride hk hb h ih => exact .ride hk hb (ih hm)
  | step hk hi ht hc h ih =>
    obtain ⟨m, rfl⟩ : ∃ j, m = j + 1 := ⟨m - 1, by omega⟩
    exact .step hk hi ht hc (ih (by omega))
theorem Ont.pos {n k : Nat} (h : Ont l ch src t0 n k) : 1 ≤ n := by
  induction h with
  | base hn => exact hn
  | ride hk hb h ih => exact ih
  | step hk hi ht hc h ih => omega
/-- along a trip one stays on it -/
theorem Ont.stay {n i : Nat} (h : Ont l ch src t0 n i) : ∀ (k : Nat), i ≤ k → k < l.length → (cn l i).f4 = (cn l k).f4 → Ont l ch src t0 n k := by
  intro k
  induction k using Nat.strongRecOn with
  | ind k ih =>
    intro hik hk ht
    by_cases e : i = k
    · subst e; exact h
    · cases hb : bef l k with
      | none => exact absurd ht (befAt_none hb i (by omega))
      | some j =>
        obtain ⟨hj, ej, hm⟩ := befAt_some hb
        have hij : i ≤ j := by
          rcases Nat.lt_or_ge j i with hlt | hge
          · exact absurd ht (hm i hlt (by omega))
          · exact hge
        exact .ride hk hb (ih j hj hij (by omega) (ht.trans ej.symm))
/-- where one rides one is not ahead of time (ok: each trip goes on where and when it came) -/
def Chain (l : List Cn) : Prop := ∀ k i, k < l.length → bef l k = some i → (cn l i).f1 = (cn l k).f0 ∧ (cn l i).f3 ≤ (cn l k).f2
theorem Ont.late (ok : Ok stops ch l) (hch : Chain l) {n k : Nat} (h : Ont l ch src t0 n k) : t0 ≤ (cn l k).f2 := by
  induction h with
  | base hn hk hs ht => exact ht
  | ride hk hb h ih =>
    have := (hch _ _ hk hb).2
    have := (ok.at_ _ h.lt)
    omega
  | step hk hi ht hc h ih =>
    have := (ok.at_ _ h.lt)
    have := ok.c0
    omega
theorem Ont.weak {ch' t0' : Int} (h1 : ch ≤ ch') (h2 : t0 ≤ t0') {n k : Nat} (h : Ont l ch' src t0' n k) : Ont l ch src t0 n k := by
  induction h with
  | base hn hk hs ht => exact .base hn hk hs (by omega)
  | ride hk hb h ih => exact .ride hk hb ih
  | step hk hi ht hc h ih => exact .step hk hi ht (by omega) ih

/-- D: the earliest arrivals by connections of P -/
structure IsArr (l : List Cn) (stops src t0 : Int) (P : Nat → Prop) (D : List Int) : Prop where
  len : (D.length : Int) = stops
  src_ : rd D src = t0
  low : ∀ k, P k → (cn l k).f1 ≠ src → rd D (cn l k).f1 ≤ (cn l k).f3
  is_ : ∀ v, 0 ≤ v → v < stops → v ≠ src → rd D v = 99999 ∨ ∃ k, P k ∧ (cn l k).f1 = v ∧ rd D v = (cn l k).f3
theorem IsArr.congr {P Q : Nat → Prop} {D : List Int} (h : IsArr l stops src t0 P D) (e : ∀ k, P k ↔ Q k) : IsArr l stops src t0 Q D := by
  refine ⟨h.len, h.src_, fun k hk => h.low k ((e k).2 hk), fun v h0 h1 h2 => ?_⟩
  rcases h.is_ v h0 h1 h2 with hf | ⟨k, hk, r⟩
  · exact .inl hf
  · exact .inr ⟨k, (e k).1 hk, r⟩
theorem ext_rd {D E : List Int} (hl : D.length = E.length) (h : ∀ v : Int, 0 ≤ v → v < D.length → rd D v = rd E v) : D = E := by
  apply List.ext_getElem hl
  intro i h1 h2
  have := h i (by omega) (by omega)
  rwa [rd_at0 _ i h1, rd_at0 _ i h2] at this
theorem IsArr.le (ok : Ok stops ch l) {P Q : Nat → Prop} {D E : List Int} (hP : ∀ k, P k → k < l.length) (hQ : ∀ k, Q k → k < l.length) (h : IsArr l stops src t0 P D) (g : IsArr l stops src t0 Q E) (e : ∀ k, Q k → P k) {v : Int} (h0 : 0 ≤ v) (h1 : v < stops) : rd D v ≤ rd E v := by
  by_cases hs : v = src
  · subst hs
    rw [h.src_, g.src_]
    exact Int.le_refl _
  · rcases g.is_ v h0 h1 hs with hf | ⟨k, hk, rfl, e1⟩
    · rw [hf]
      rcases h.is_ v h0 h1 hs with hf' | ⟨k, hk, _, e2⟩
      · omega
      · have := ok.at_ k (hP k hk)
        omega
    · rw [e1]
      exact h.low k (e k hk) hs
theorem IsArr.uniq (ok : Ok stops ch l) {P Q : Nat → Prop} {D E : List Int} (hP : ∀ k, P k → k < l.length) (hQ : ∀ k, Q k → k < l.length) (h : IsArr l stops src t0 P D) (g : IsArr l stops src t0 Q E) (e : ∀ k, P k ↔ Q k) : D = E := by
  have hl := h.len
  have gl := g.len
  apply ext_rd (by omega)
  intro v h0 h1
  have a := h.le ok hP hQ g (fun k => (e k).2) h0 (by omega)
  have b := g.le ok hQ hP h (fun k => (e k).1) h0 (by omega)
  omega
theorem IsArr.bnd (ok : Ok stops ch l) {P : Nat → Prop} {D : List Int} (hP : ∀ k, P k → k < l.length ∧ t0 ≤ (cn l k).f2) (h : IsArr l stops src t0 P D) (ht : t0 ≤ 199) {v : Int} (h0 : 0 ≤ v) (h1 : v < stops) : t0 ≤ rd D v ∧ rd D v ≤ 99999 := by
  by_cases hs : v = src
  · subst hs
    rw [h.src_]
    omega
  · rcases h.is_ v h0 h1 hs with hf | ⟨k, hk, _, e⟩
    · omega
    · have := hP k hk
      have := ok.at_ k this.1
      omega

/-! with as many trips as there are stops, less one, one comes as early as with any -/
theorem nodup_bound : ∀ {n : Nat} {L : List Nat}, L.Nodup → (∀ x ∈ L, x < n) → L.length ≤ n
  | 0, [], _, _ => by simp
  | 0, x :: L, _, h => by have := h x (by simp); omega
  | n + 1, L, hn, h => by
    have h1 : (L.filter (fun x => x != n)).length ≤ n := by
      apply nodup_bound (hn.filter _)
      intro x hx
      simp only [List.mem_filter, bne_iff_ne, ne_eq] at hx
      have := h x hx.1
      omega
    have h2 : ∀ (L : List Nat), L.Nodup → L.length ≤ (L.filter (fun x => x != n)).length + 1 := by
      intro L
      induction L with
      | nil => intro _; simp
      | cons x L ih =>
        intro hn
        rw [List.nodup_cons] at hn
        by_cases e : x = n
        · subst e
          have : L.filter (fun y => y != x) = L := by
            rw [List.filter_eq_self]
            intro y hy
            simp only [bne_iff_ne, ne_eq]
            rintro rfl
            exact hn.1 hy
          simp [this]
        · have := ih hn.2
          simp [e]
          omega
    have := h2 L hn
    omega
theorem nodup_bound_int {n : Int} {L : List Int} (h0 : 0 ≤ n) (hL : L.Nodup) (h : ∀ x ∈ L, 0 ≤ x ∧ x < n) : (L.length : Int) ≤ n := by
  have h1 : (L.map Int.toNat).Nodup := by
    rw [List.Nodup, List.pairwise_map]
    exact List.Pairwise.imp_of_mem (fun {a b} ha hb hab e => hab (by have := h a ha; have := h b hb; omega)) hL
  have := nodup_bound (n := n.toNat) h1 (by
    intro x hx
    rw [List.mem_map] at hx
    obtain ⟨y, hy, rfl⟩ := hx
    have := h y hy
    omega)
  rw [List.length_map] at this
  omega
theorem Ont.board (ok : Ok stops ch l) (hch : Chain l) {n k : Nat} (h : Ont l ch src t0 n k) : ∀ j, n = j + 1 → ¬ Ont l ch src t0 j k →
    ∃ i, i < l.length ∧ (cn l i).f2 ≤ (cn l k).f3 ∧ (((cn l i).f0 = src ∧ t0 ≤ (cn l i).f2 ∧ j = 0) ∨ ∃ m, Ont l ch src t0 j m ∧ (cn l m).f1 = (cn l i).f0 ∧ (cn l m).f3 + ch ≤ (cn l i).f2 ∧ ¬ Ont l ch src t0 j i) := by
  induction h with
  | @base n k hn hk hs ht =>
    intro j e hno
    have := ok.at_ k hk
    refine ⟨k, hk, by omega, .inl ⟨hs, ht, ?_⟩⟩
    rcases Nat.eq_zero_or_pos j with h | h
    · exact h
    · exact absurd (.base h hk hs ht) hno
  | @ride n k i hk hb h ih =>
    intro j e hno
    obtain ⟨i', hi, hg, hr⟩ := ih j e (fun h' => hno (.ride hk hb h'))
    have := hch k i hk hb
    have := ok.at_ k hk
    exact ⟨i', hi, by omega, hr⟩
  | @step n k i hk hi ht hc h ih =>
    intro j e hno
    obtain rfl : n = j := by omega
    have := ok.at_ k hk
    exact ⟨k, hk, by omega, .inr ⟨i, h, ht, hc, hno⟩⟩
theorem improve (ok : Ok stops ch l) (hch : Chain l) (ht0 : t0 ≤ 199) {D : Nat → List Int} (hD : ∀ j, IsArr l stops src t0 (Ont l ch src t0 j) (D j)) (hsrc : 0 ≤ src ∧ src < stops) : ∀ (j : Nat) (v : Int), 0 ≤ v → v < stops → rd (D (j + 1)) v < rd (D j) v →
    ∃ (L : List Int) (K : List Nat), L.length = j + 1 ∧ (v :: L).Nodup ∧ (∀ u ∈ v :: L, 0 ≤ u ∧ u < stops) ∧ (∀ u ∈ v :: L, rd (D (j + 1)) u ≤ rd (D (j + 1)) v) ∧ K.map (fun k => (cn l k).f0) = L ∧ ∀ k ∈ K, k < l.length := by
  intro j
  have hb : ∀ n v, 0 ≤ v → v < stops → t0 ≤ rd (D n) v ∧ rd (D n) v ≤ 99999 := fun n v h0 h1 => (hD n).bnd ok (fun k hk => ⟨hk.lt, hk.late ok hch⟩) ht0 h0 h1
  have hle : ∀ n v, 0 ≤ v → v < stops → rd (D (n + 1)) v ≤ rd (D n) v := fun n v h0 h1 => (hD (n + 1)).le ok (fun k hk => hk.lt) (fun k hk => hk.lt) (hD n) (fun k hk => hk.mono (by omega)) h0 h1
  induction j with
  | zero =>
    intro v h0 h1 hlt
    rw [Nat.zero_add] at hlt
    have hv : v ≠ src := by rintro rfl; rw [(hD _).src_, (hD _).src_] at hlt; omega
    rcases (hD 1).is_ v h0 h1 hv with hf | ⟨k, hk, ek, rk⟩
    · have := hb 0 v h0 h1
      omega
    · have hno : ¬ Ont l ch src t0 0 k := fun h => by have := h.pos; omega
      obtain ⟨i, hi, hg, hr⟩ := hk.board ok hch 0 rfl hno
      rcases hr with ⟨e0, e1, _⟩ | ⟨m, hm, _⟩
      · refine ⟨[src], [i], rfl, by simpa using hv, ?_, ?_, by simp [e0], by simpa using hi⟩
        · intro u hu
          rcases List.mem_cons.1 hu with rfl | hu
          · exact ⟨h0, h1⟩
          · rw [List.mem_singleton] at hu
            subst hu; exact hsrc
        · intro u hu
          rcases List.mem_cons.1 hu with rfl | hu
          · exact Int.le_refl _
          · rw [List.mem_singleton] at hu
            subst hu
            rw [(hD _).src_, rk]
            omega
      · have := hm.pos; omega
  | succ j ih =>
    intro v h0 h1 hlt
    have hv : v ≠ src := by rintro rfl; rw [(hD _).src_, (hD _).src_] at hlt; omega
    rcases (hD (j + 1 + 1)).is_ v h0 h1 hv with hf | ⟨k, hk, ek, rk⟩
    · have := hb (j + 1) v h0 h1
      omega
    · have hno : ¬ Ont l ch src t0 (j + 1) k := fun h => by
        have := (hD (j + 1)).low k h (by rw [ek]; exact hv)
        rw [ek] at this
        omega
      obtain ⟨i, hi, hg, hr⟩ := hk.board ok hch (j + 1) rfl hno
      rcases hr with ⟨e0, e1, e2⟩ | ⟨m, hm, em, hc, hni⟩
      · omega
      · have hmk := ok.at_ m hm.lt
        have hic := ok.at_ i hi
        have hlm := hm.late ok hch
        have hch0 := ok.c0
        have hu : (cn l i).f0 ≠ src := fun e => hni (.base (by omega) hi e (by omega))
        have hDu := (hD (j + 1)).low m hm (by rw [em]; exact hu)
        rw [em] at hDu
        have himp : rd (D (j + 1)) (cn l i).f0 < rd (D j) (cn l i).f0 := by
          rcases (show rd (D (j + 1)) (cn l i).f0 < rd (D j) (cn l i).f0 ∨ rd (D j) (cn l i).f0 ≤ rd (D (j + 1)) (cn l i).f0 by omega) with h | h
          · exact h
          · exfalso
            rcases (hD j).is_ (cn l i).f0 hic.1 hic.2.1 hu with hf | ⟨m', hm', em', rm'⟩
            · omega
            · exact hni (.step hi hm'.lt em' (by omega) hm')
        obtain ⟨L, K, hL, hn, hin, hall, hK, hKl⟩ := ih _ hic.1 hic.2.1 himp
        have hvL : v ∉ (cn l i).f0 :: L := by
          intro hm'
          have := hall v hm'
          omega
        refine ⟨(cn l i).f0 :: L, i :: K, by simp [hL], List.nodup_cons.2 ⟨hvL, hn⟩, ?_, ?_, by simp [hK], ?_⟩
        · intro u hu
          rcases List.mem_cons.1 hu with rfl | hu
          · exact ⟨h0, h1⟩
          · exact hin u hu
        · intro u hu
          rcases List.mem_cons.1 hu with rfl | hu
          · exact Int.le_refl _
          · have a := hin u hu
            have b := hall u hu
            have c := hle (j + 1) u a.1 a.2
            omega
        · intro k' hk'
          rcases List.mem_cons.1 hk' with rfl | hk'
          · exact hi
          · exact hKl k' hk'
theorem still (ok : Ok stops ch l) (hch : Chain l) (ht0 : t0 ≤ 199) {D : Nat → List Int} (hD : ∀ j, IsArr l stops src t0 (Ont l ch src t0 j) (D j)) (hsrc : 0 ≤ src ∧ src < stops) (j : Nat) (hj : stops ≤ j + 1 ∨ l.length ≤ j) {v : Int} (h0 : 0 ≤ v) (h1 : v < stops) : ∀ n, rd (D j) v ≤ rd (D (j + n)) v := by
  intro n
  induction n with
  | zero => exact Int.le_refl _
  | succ n ih =>
    rcases (show rd (D (j + n + 1)) v < rd (D (j + n)) v ∨ rd (D (j + n)) v ≤ rd (D (j + n + 1)) v by omega) with h | h
    · exfalso
      obtain ⟨L, K, hL, hn, hin, hall, hK, hKl⟩ := improve ok hch ht0 hD hsrc (j + n) v h0 h1 h
      have s1 := ok.s1
      have a := nodup_bound_int (n := stops) (by omega) hn hin
      have hKn : K.Nodup := by
        have := (List.nodup_cons.1 hn).2
        rw [← hK, List.Nodup, List.pairwise_map] at this
        exact this.imp (fun hab e => hab (by rw [e]))
      have b := nodup_bound hKn hKl
      have c : K.length = L.length := by rw [← hK, List.length_map]
      simp only [List.length_cons] at a
      omega
    · have : j + (n + 1) = j + n + 1 := by omega
      rw [this]
      omega
theorem all_arr (ok : Ok stops ch l) (hch : Chain l) (ht0 : t0 ≤ 199) {D : Nat → List Int} (hD : ∀ j, IsArr l stops src t0 (Ont l ch src t0 j) (D j)) (hsrc : 0 ≤ src ∧ src < stops) (j : Nat) (hj : stops ≤ j + 1 ∨ l.length ≤ j) : IsArr l stops src t0 (fun k => ∃ n, Ont l ch src t0 n k) (D j) := by
  refine ⟨(hD j).len, (hD j).src_, ?_, ?_⟩
  · rintro k ⟨n, hk⟩ hs
    have a := ok.at_ k hk.lt
    have := still ok hch ht0 hD hsrc j hj a.2.2.1 a.2.2.2.1 n
    have h2 := (hD (j + n)).low k (hk.mono (by omega)) hs
    omega
  · intro v h0 h1 hs
    rcases (hD j).is_ v h0 h1 hs with h | ⟨k, hk, r⟩
    · exact .inl h
    · exact .inr ⟨k, ⟨_, hk⟩, r⟩
end

/-! passes -/
theorem rd_set (d : List Int) (s : Int) (hs : 0 ≤ s) (hl : s < d.length) (x y : Int) (hy : 0 ≤ y) : rd (d.set s.toNat x) y = if y = s then x else rd d y := by
  obtain ⟨s, rfl⟩ := Int.eq_ofNat_of_zero_le hs
  obtain ⟨y, rfl⟩ := Int.eq_ofNat_of_zero_le hy
  have hl' : s < d.length := by omega
  simp only [rd, Int.toNat_natCast, List.getD_eq_getElem?_getD, List.getElem?_set]
  by_cases e : s = y
  · subst e
    simp [hl']
  · have : ¬ (y : Int) = (s : Int) := by omega
    simp [e, this]
def onAt (on : List Bool) (t : Int) : Bool := on.getD t.toNat false
theorem onAt_set (on : List Bool) (s : Int) (hs : 0 ≤ s) (hl : s < on.length) (y : Int) (hy : 0 ≤ y) : onAt (on.set s.toNat true) y = if y = s then true else onAt on y := by
  obtain ⟨s, rfl⟩ := Int.eq_ofNat_of_zero_le hs
  obtain ⟨y, rfl⟩ := Int.eq_ofNat_of_zero_le hy
  have hl' : s < on.length := by omega
  simp only [onAt, Int.toNat_natCast, List.getD_eq_getElem?_getD, List.getElem?_set]
  by_cases e : s = y
  · subst e
    simp [hl']
  · have : ¬ (y : Int) = (s : Int) := by omega
    simp [e, this]
def canB (ch src t0 : Int) (was : List Int) (c : Cn) : Bool := (decide (rd was c.f0 < 99999) && decide (rd was c.f0 + ch ≤ c.f2)) || (decide (c.f0 = src) && decide (t0 ≤ c.f2))
theorem canB_iff {ch src t0 : Int} {was : List Int} {c : Cn} : canB ch src t0 was c = true ↔ (rd was c.f0 < 99999 ∧ rd was c.f0 + ch ≤ c.f2) ∨ (c.f0 = src ∧ t0 ≤ c.f2) := by
  simp [canB]
abbrev St := List Int × List Bool
def stepP (ch src t0 : Int) (was : List Int) (st : St) (c : Cn) : St :=
  if (onAt st.2 c.f4 || canB ch src t0 was c) = true then (if c.f3 < rd st.1 c.f1 then st.1.set c.f1.toNat c.f3 else st.1, st.2.set c.f4.toNat true) else st
/-- one pass, in so many trips as 'was' has and one -/
def pass7 (ch src t0 : Int) (was : List Int) (l : List Cn) (st : St) : St := l.foldl (stepP ch src t0 was) st
def next7 (ch src t0 : Int) (l : List Cn) (was : List Int) : List Int := (pass7 ch src t0 was l (was, List.replicate 6 false)).1
def pass6 (ch src t0 : Int) (l : List Cn) (st : St) : St := l.foldl (fun st c => stepP ch src t0 st.1 st c) st
theorem foldl_take {α β : Type} (f : β → α → β) (l : List α) (b : β) (i : Nat) (hi : i < l.length) : (l.take (i + 1)).foldl f b = f ((l.take i).foldl f b) l[i] := by
  rw [List.take_succ_eq_append_getElem hi, List.foldl_append]
  rfl
theorem cn_at (l : List Cn) (k : Nat) (hk : k < l.length) : l[k] = cn l k := by simp [cn, hk]
section
variable {l : List Cn} {stops ch src t0 : Int}
/-- the store of an arrival -/
theorem arr_store (ok : Ok stops ch l) {P : Nat → Prop} (hP : ∀ k, P k → k < l.length) {d : List Int} (h : IsArr l stops src t0 P d) (hsrc : 0 ≤ src ∧ src < stops) {i : Nat} (hi : i < l.length) (hlate : t0 ≤ (cn l i).f2) :
    IsArr l stops src t0 (fun k => P k ∨ k = i) (if (cn l i).f3 < rd d (cn l i).f1 then d.set (cn l i).f1.toNat (cn l i).f3 else d) := by
  have a := ok.at_ i hi
  have hlen := h.len
  have hs := h.src_
  by_cases hc : (cn l i).f3 < rd d (cn l i).f1
  · rw [if_pos hc]
    have hr : ∀ y : Int, 0 ≤ y → rd (d.set (cn l i).f1.toNat (cn l i).f3) y = if y = (cn l i).f1 then (cn l i).f3 else rd d y := fun y hy => rd_set d _ a.2.2.1 (by omega) _ y hy
    have hne : (cn l i).f1 ≠ src := by
      rintro e
      rw [e, hs] at hc
      omega
    refine ⟨by simpa using hlen, by rw [hr _ hsrc.1, if_neg (fun e => hne e.symm)]; exact hs, ?_, ?_⟩
    · rintro k hk hks
      by_cases e : (cn l k).f1 = (cn l i).f1
      · rw [e, hr _ a.2.2.1, if_pos rfl]
        rcases hk with hk | rfl
        · have := h.low k hk hks
          rw [e] at this
          omega
        · exact Int.le_refl _
      · rcases hk with hk | rfl
        · rw [hr _ (ok.at_ k (hP k hk)).2.2.1, if_neg e]
          exact h.low k hk hks
        · exact absurd rfl e
    · intro v h0 h1 hvs
      rw [hr v h0]
      by_cases e : v = (cn l i).f1
      · rw [if_pos e]
        exact .inr ⟨i, .inr rfl, e.symm, rfl⟩
      · rw [if_neg e]
        rcases h.is_ v h0 h1 hvs with hf | ⟨k, hk, r⟩
        · exact .inl hf
        · exact .inr ⟨k, .inl hk, r⟩
  · rw [if_neg hc]
    refine ⟨hlen, hs, ?_, ?_⟩
    · rintro k (hk | rfl) hks
      · exact h.low k hk hks
      · omega
    · intro v h0 h1 hvs
      rcases h.is_ v h0 h1 hvs with hf | ⟨k, hk, r⟩
      · exact .inl hf
      · exact .inr ⟨k, .inl hk, r⟩
/-- what holds of a pass of 'next7' behind i connections -/
structure I7 (l : List Cn) (stops ch src t0 : Int) (j i : Nat) (st : St) : Prop where
  on6 : st.2.length = 6
  on_ : ∀ t, 0 ≤ t → t ≤ 5 → (onAt st.2 t = true ↔ ∃ k, k < i ∧ (cn l k).f4 = t ∧ Ont l ch src t0 (j + 1) k)
  arr : IsArr l stops src t0 (fun k => Ont l ch src t0 j k ∨ (k < i ∧ Ont l ch src t0 (j + 1) k)) st.1
theorem can_iff (ok : Ok stops ch l) (hch : Chain l) {j i : Nat} {was : List Int} {on : List Bool} (hw : IsArr l stops src t0 (Ont l ch src t0 j) was) (hsrc : 0 ≤ src ∧ src < stops) (hi : i < l.length)
    (hon : ∀ t, 0 ≤ t → t ≤ 5 → (onAt on t = true ↔ ∃ k, k < i ∧ (cn l k).f4 = t ∧ Ont l ch src t0 (j + 1) k)) :
    (onAt on (cn l i).f4 || canB ch src t0 was (cn l i)) = true ↔ Ont l ch src t0 (j + 1) i := by
  have a := ok.at_ i hi
  have c0 := ok.c0
  rw [Bool.or_eq_true, canB_iff, hon _ (by omega) (by omega)]
  constructor
  · rintro (⟨k, hk, e, h⟩ | ⟨h1, h2⟩ | ⟨h1, h2⟩)
    · exact h.stay i (by omega) hi e
    · by_cases e : (cn l i).f0 = src
      · refine .base (by omega) hi e ?_
        rw [e, hw.src_] at h2
        omega
      · rcases hw.is_ _ a.1 a.2.1 e with hf | ⟨k, hk, ek, rk⟩
        · omega
        · exact .step hi hk.lt ek (by omega) hk
    · exact .base (by omega) hi h1 h2
  · intro h
    cases h with
    | base hn hk hs ht => exact .inr (.inr ⟨hs, ht⟩)
    | @ride _ _ i' hk hb h =>
      obtain ⟨b1, b2, b3⟩ := befAt_some hb
      exact .inl ⟨i', b1, b2, h⟩
    | @step _ _ k hk hik ht hc h =>
      have b := ok.at_ k hik
      have hl := h.late ok hch
      by_cases e : (cn l i).f0 = src
      · exact .inr (.inr ⟨e, by omega⟩)
      · have := hw.low k h (by rw [ht]; exact e)
        rw [ht] at this
        exact .inr (.inl ⟨by omega, by omega⟩)
theorem step7 (ok : Ok stops ch l) (hch : Chain l) {j i : Nat} {was : List Int} {st : St} (hw : IsArr l stops src t0 (Ont l ch src t0 j) was) (hsrc : 0 ≤ src ∧ src < stops) (hi : i < l.length) (h : I7 l stops ch src t0 j i st) :
    I7 l stops ch src t0 j (i + 1) (stepP ch src t0 was st (cn l i)) := by
  have a := ok.at_ i hi
  have hc := can_iff ok hch hw hsrc hi h.on_
  unfold stepP
  by_cases hx : (onAt st.2 (cn l i).f4 || canB ch src t0 was (cn l i)) = true
  · rw [if_pos hx]
    have hO := hc.1 hx
    have o6 := h.on6
    refine ⟨by simpa using o6, fun t h0 h5 => ?_, ?_⟩
    · rw [onAt_set _ _ (by omega) (by omega) _ h0]
      by_cases e : t = (cn l i).f4
      · rw [if_pos e]
        simp only [true_iff]
        exact ⟨i, by omega, e.symm, hO⟩
      · rw [if_neg e, h.on_ t h0 h5]
        constructor
        · rintro ⟨k, hk, r⟩
          exact ⟨k, by omega, r⟩
        · rintro ⟨k, hk, r1, r2⟩
          refine ⟨k, ?_, r1, r2⟩
          rcases Nat.lt_or_ge k i with hlt | hge
          · exact hlt
          · obtain rfl : k = i := by omega
            exact absurd r1.symm e
    · refine (arr_store ok (fun k hk => ?_) h.arr hsrc hi (hO.late ok hch)).congr (fun k => ?_)
      · rcases hk with hk | ⟨_, hk⟩ <;> exact hk.lt
      · constructor
        · rintro ((hk | ⟨h1, h2⟩) | rfl)
          · exact .inl hk
          · exact .inr ⟨by omega, h2⟩
          · exact .inr ⟨by omega, hO⟩
        · rintro (hk | ⟨h1, h2⟩)
          · exact .inl (.inl hk)
          · rcases Nat.lt_or_ge k i with hlt | hge
            · exact .inl (.inr ⟨hlt, h2⟩)
            · exact .inr (by omega)
  · rw [if_neg hx]
    have hno : ¬ Ont l ch src t0 (j + 1) i := fun h' => hx (hc.2 h')
    refine ⟨h.on6, fun t h0 h5 => ?_, h.arr.congr fun k => ?_⟩
    · rw [h.on_ t h0 h5]
      constructor
      · rintro ⟨k, hk, r⟩
        exact ⟨k, by omega, r⟩
      · rintro ⟨k, hk, r1, r2⟩
        refine ⟨k, ?_, r1, r2⟩
        rcases Nat.lt_or_ge k i with hlt | hge
        · exact hlt
        · obtain rfl : k = i := by omega
          exact absurd r2 hno
    · constructor
      · rintro (hk | ⟨h1, h2⟩)
        · exact .inl hk
        · exact .inr ⟨by omega, h2⟩
      · rintro (hk | ⟨h1, h2⟩)
        · exact .inl hk
        · rcases Nat.lt_or_ge k i with hlt | hge
          · exact .inr ⟨hlt, h2⟩
          · obtain rfl : k = i := by omega
            exact absurd h2 hno
theorem pass7_inv (ok : Ok stops ch l) (hch : Chain l) {j : Nat} {was : List Int} (hw : IsArr l stops src t0 (Ont l ch src t0 j) was) (hsrc : 0 ≤ src ∧ src < stops) : ∀ i, i ≤ l.length → I7 l stops ch src t0 j i (pass7 ch src t0 was (l.take i) (was, List.replicate 6 false)) := by
  intro i
  induction i with
  | zero =>
    intro _
    refine ⟨by simp [pass7], fun t h0 h5 => ?_, hw.congr fun k => ?_⟩
    · have e : onAt (List.replicate 6 false) t = false := by
        simp only [onAt, List.getD_eq_getElem?_getD, List.getElem?_replicate]
        split <;> rfl
      show onAt (List.replicate 6 false) t = true ↔ _
      rw [e]
      simp
    · simp
  | succ i ih =>
    intro hi
    have := step7 ok hch hw hsrc (by omega) (ih (by omega))
    unfold pass7
    rw [foldl_take _ _ _ _ (by omega), cn_at]
    exact this
theorem next7_arr (ok : Ok stops ch l) (hch : Chain l) {j : Nat} {was : List Int} (hw : IsArr l stops src t0 (Ont l ch src t0 j) was) (hsrc : 0 ≤ src ∧ src < stops) : IsArr l stops src t0 (Ont l ch src t0 (j + 1)) (next7 ch src t0 l was) := by
  have := (pass7_inv ok hch hw hsrc l.length (Nat.le_refl _)).arr
  rw [List.take_length] at this
  refine this.congr fun k => ?_
  constructor
  · rintro (hk | ⟨h1, h2⟩)
    · exact hk.mono (by omega)
    · exact h2
  · exact fun h => .inr ⟨h.lt, h⟩
/-- arrivals with no more than j trips -/
def d7 (stops src t0 : Int) : List Int := (List.replicate stops.toNat (99999 : Int)).set src.toNat t0
def arrN (ch src t0 : Int) (l : List Cn) (stops : Int) : Nat → List Int
  | 0 => d7 stops src t0
  | j + 1 => next7 ch src t0 l (arrN ch src t0 l stops j)
theorem rd_rep {n : Nat} {v x : Int} (h0 : 0 ≤ v) (h1 : v < n) : rd (List.replicate n x) v = x := by
  obtain ⟨v, rfl⟩ := Int.eq_ofNat_of_zero_le h0
  rw [rd_at0 _ v (by simp; omega)]
  simp
theorem d7_rd (hsrc : 0 ≤ src ∧ src < stops) {v : Int} (h0 : 0 ≤ v) (h1 : v < stops) : rd (d7 stops src t0) v = if v = src then t0 else 99999 := by
  unfold d7
  rw [rd_set _ _ hsrc.1 (by simp; omega) _ _ h0, rd_rep h0 (by omega)]
theorem d7_len (hsrc : 0 ≤ src ∧ src < stops) : ((d7 stops src t0).length : Int) = stops := by
  simp [d7]; omega
theorem d7_arr (ok : Ok stops ch l) (hsrc : 0 ≤ src ∧ src < stops) : IsArr l stops src t0 (Ont l ch src t0 0) (d7 stops src t0) := by
  refine ⟨d7_len hsrc, by rw [d7_rd hsrc hsrc.1 hsrc.2, if_pos rfl], fun k hk => by have := hk.pos; omega, fun v h0 h1 hs => .inl (by rw [d7_rd hsrc h0 h1, if_neg hs])⟩
theorem arrN_arr (ok : Ok stops ch l) (hch : Chain l) (hsrc : 0 ≤ src ∧ src < stops) : ∀ j, IsArr l stops src t0 (Ont l ch src t0 j) (arrN ch src t0 l stops j)
  | 0 => d7_arr ok hsrc
  | j + 1 => next7_arr ok hch (arrN_arr ok hch hsrc j) hsrc

/-! the passes of 'all' -/
structure I6 (l : List Cn) (stops ch src t0 : Int) (r i : Nat) (st : St) : Prop where
  len : (st.1.length : Int) = stops
  on6 : st.2.length = 6
  onS : ∀ t, 0 ≤ t → t ≤ 5 → onAt st.2 t = true → ∃ k n, k < i ∧ (cn l k).f4 = t ∧ Ont l ch src t0 n k
  onC : ∀ k, k < i → Ont l ch src t0 (r + 1) k → onAt st.2 (cn l k).f4 = true
  dS : ∀ v, 0 ≤ v → v < stops → rd st.1 v = 99999 ∨ ∃ k n, Ont l ch src t0 n k ∧ (cn l k).f1 = v ∧ rd st.1 v = (cn l k).f3
  dC : ∀ k, (Ont l ch src t0 r k ∨ (k < i ∧ Ont l ch src t0 (r + 1) k)) → rd st.1 (cn l k).f1 ≤ (cn l k).f3
theorem step6 (ok : Ok stops ch l) (hch : Chain l) {r i : Nat} {st : St} (hi : i < l.length) (h : I6 l stops ch src t0 r i st) :
    I6 l stops ch src t0 r (i + 1) (stepP ch src t0 st.1 st (cn l i)) := by
  have a := ok.at_ i hi
  have c0 := ok.c0
  have hsnd : (onAt st.2 (cn l i).f4 || canB ch src t0 st.1 (cn l i)) = true → ∃ n, Ont l ch src t0 n i := by
    rw [Bool.or_eq_true, canB_iff]
    rintro (h1 | ⟨h1, h2⟩ | ⟨h1, h2⟩)
    · obtain ⟨k, n, hk, e, ho⟩ := h.onS _ (by omega) (by omega) h1
      exact ⟨n, ho.stay i (by omega) hi e⟩
    · rcases h.dS _ a.1 a.2.1 with hf | ⟨k, n, hk, ek, rk⟩
      · omega
      · exact ⟨_, .step hi hk.lt ek (by omega) hk⟩
    · exact ⟨1, .base (by omega) hi h1 h2⟩
  have hcmp : Ont l ch src t0 (r + 1) i → (onAt st.2 (cn l i).f4 || canB ch src t0 st.1 (cn l i)) = true := by
    intro ho
    rw [Bool.or_eq_true, canB_iff]
    cases ho with
    | base hn hk hs ht => exact .inr (.inr ⟨hs, ht⟩)
    | @ride _ _ i' hk hb h' =>
      obtain ⟨b1, b2, b3⟩ := befAt_some hb
      have := h.onC i' b1 h'
      rw [b2] at this
      exact .inl this
    | @step _ _ k hk hik ht hc h' =>
      have b := ok.at_ k hik
      have := h.dC k (.inl h')
      rw [ht] at this
      exact .inr (.inl ⟨by omega, by omega⟩)
  unfold stepP
  by_cases hx : (onAt st.2 (cn l i).f4 || canB ch src t0 st.1 (cn l i)) = true
  · rw [if_pos hx]
    obtain ⟨n, hn⟩ := hsnd hx
    have o6 := h.on6
    have hlen := h.len
    have hset : ∀ t, 0 ≤ t → onAt (st.2.set (cn l i).f4.toNat true) t = if t = (cn l i).f4 then true else onAt st.2 t := fun t h0 => onAt_set _ _ (by omega) (by omega) _ h0
    have hd : ∃ d', (if (cn l i).f3 < rd st.1 (cn l i).f1 then st.1.set (cn l i).f1.toNat (cn l i).f3 else st.1) = d' ∧ (d'.length : Int) = stops ∧ (∀ y, 0 ≤ y → rd d' y = if y = (cn l i).f1 ∧ (cn l i).f3 < rd st.1 (cn l i).f1 then (cn l i).f3 else rd st.1 y) := by
      refine ⟨_, rfl, ?_, fun y hy => ?_⟩
      · split <;> simpa using hlen
      · by_cases hc : (cn l i).f3 < rd st.1 (cn l i).f1
        · rw [if_pos hc, rd_set _ _ (by omega) (by omega) _ _ hy]
          simp [hc]
        · rw [if_neg hc]
          simp [hc]
    obtain ⟨d', hd', hl', hr⟩ := hd
    rw [hd']
    refine ⟨hl', by simpa using o6, fun t h0 h5 => ?_, fun k hk ho => ?_, fun v h0 h1 => ?_, fun k hk => ?_⟩
    · rw [hset t h0]
      by_cases e : t = (cn l i).f4
      · intro _
        exact ⟨i, n, by omega, e.symm, hn⟩
      · rw [if_neg e]
        intro h1
        obtain ⟨k, n, hk, r⟩ := h.onS t h0 h5 h1
        exact ⟨k, n, by omega, r⟩
    · have b := ok.at_ k ho.lt
      rw [hset _ (by omega)]
      by_cases e : (cn l k).f4 = (cn l i).f4
      · rw [if_pos e]
      · rw [if_neg e]
        refine h.onC k ?_ ho
        rcases Nat.lt_or_ge k i with hlt | hge
        · exact hlt
        · obtain rfl : k = i := by omega
          exact absurd rfl e
    · rw [hr v h0]
      by_cases e : v = (cn l i).f1 ∧ (cn l i).f3 < rd st.1 (cn l i).f1
      · rw [if_pos e]
        exact .inr ⟨i, n, hn, e.1.symm, rfl⟩
      · rw [if_neg e]
        exact h.dS v h0 h1
    · have hkl : k < l.length := by rcases hk with hk | ⟨_, hk⟩ <;> exact hk.lt
      have b := ok.at_ k hkl
      show rd d' (cn l k).f1 ≤ (cn l k).f3
      rw [hr _ (by omega)]
      by_cases hki : k = i
      · subst hki
        split <;> omega
      · have := h.dC k (by
          rcases hk with hk | ⟨h1, h2⟩
          · exact .inl hk
          · exact .inr ⟨by omega, h2⟩)
        by_cases e : (cn l k).f1 = (cn l i).f1 ∧ (cn l i).f3 < rd st.1 (cn l i).f1
        · rw [if_pos e]
          rw [e.1] at this
          omega
        · rw [if_neg e]
          exact this
  · rw [if_neg hx]
    have hno : ¬ Ont l ch src t0 (r + 1) i := fun h' => hx (hcmp h')
    refine ⟨h.len, h.on6, fun t h0 h5 h1 => ?_, fun k hk ho => ?_, h.dS, fun k hk => ?_⟩
    · obtain ⟨k, n, hk, r⟩ := h.onS t h0 h5 h1
      exact ⟨k, n, by omega, r⟩
    · refine h.onC k ?_ ho
      rcases Nat.lt_or_ge k i with hlt | hge
      · exact hlt
      · obtain rfl : k = i := by omega
        exact absurd ho hno
    · refine h.dC k ?_
      rcases hk with hk | ⟨h1, h2⟩
      · exact .inl hk
      · rcases Nat.lt_or_ge k i with hlt | hge
        · exact .inr ⟨hlt, h2⟩
        · obtain rfl : k = i := by omega
          exact absurd h2 hno
theorem pass6_inv (ok : Ok stops ch l) (hch : Chain l) {r : Nat} {st : St} (h : I6 l stops ch src t0 r 0 st) : ∀ i, i ≤ l.length → I6 l stops ch src t0 r i (pass6 ch src t0 (l.take i) st) := by
  intro i
  induction i with
  | zero => exact fun _ => h
  | succ i ih =>
    intro hi
    have := step6 ok hch (by omega) (ih (by omega))
    unfold pass6
    rw [foldl_take _ _ _ _ (by omega), cn_at]
    exact this
def noOn : List Bool := List.replicate 6 false
theorem noOn_at (t : Int) : onAt noOn t = false := by
  simp only [onAt, noOn, List.getD_eq_getElem?_getD, List.getElem?_replicate]
  split <;> rfl
/-- after r passes -/
def d6 (ch src t0 : Int) (l : List Cn) (stops : Int) : Nat → List Int
  | 0 => List.replicate stops.toNat 99999
  | r + 1 => (pass6 ch src t0 l (d6 ch src t0 l stops r, noOn)).1
theorem d6_inv (ok : Ok stops ch l) (hch : Chain l) : ∀ r, I6 l stops ch src t0 r 0 (d6 ch src t0 l stops r, noOn) := by
  intro r
  have s1 := ok.s1
  induction r with
  | zero =>
    refine ⟨by simp [d6]; omega, rfl, fun t _ _ h => ?_, fun k hk => by omega, fun v h0 h1 => .inl ?_, fun k hk => ?_⟩
    · rw [noOn_at] at h; cases h
    · exact rd_rep h0 (by omega)
    · rcases hk with hk | ⟨h, _⟩
      · have := hk.pos; omega
      · omega
  | succ r ih =>
    have h := pass6_inv ok hch ih l.length (Nat.le_refl _)
    rw [List.take_length] at h
    refine ⟨h.len, rfl, fun t _ _ h => ?_, fun k hk => by omega, h.dS, fun k hk => ?_⟩
    · rw [noOn_at] at h; cases h
    · rcases hk with hk | ⟨h', _⟩
      · exact h.dC k (.inr ⟨hk.lt, hk⟩)
      · omega
/-- the arrivals of 'all' -/
def all6 (ch src t0 : Int) (l : List Cn) (stops : Int) : List Int := (d6 ch src t0 l stops (l.length + 1)).set src.toNat t0
theorem all6_arr (ok : Ok stops ch l) (hch : Chain l) (ht0 : t0 ≤ 199) (hsrc : 0 ≤ src ∧ src < stops) : IsArr l stops src t0 (fun k => ∃ n, Ont l ch src t0 n k) (all6 ch src t0 l stops) := by
  have h := d6_inv (src := src) (t0 := t0) ok hch (l.length + 1)
  have hA := all_arr ok hch ht0 (fun j => arrN_arr (t0 := t0) ok hch hsrc j) hsrc (l.length + 1) (.inr (by omega))
  have hB := arrN_arr (t0 := t0) ok hch hsrc (l.length + 1)
  have hlen := h.len
  simp only at hlen
  have hr : ∀ y : Int, 0 ≤ y → rd (all6 ch src t0 l stops) y = if y = src then t0 else rd (d6 ch src t0 l stops (l.length + 1)) y := fun y hy => rd_set _ _ hsrc.1 (by omega) _ _ hy
  refine ⟨by simpa [all6] using hlen, by rw [hr _ hsrc.1, if_pos rfl], ?_, ?_⟩
  · rintro k ⟨n, hk⟩ hs
    have a := ok.at_ k hk.lt
    rw [hr _ a.2.2.1, if_neg hs]
    have h1 := hA.low k ⟨n, hk⟩ hs
    rcases hB.is_ _ a.2.2.1 a.2.2.2.1 hs with hf | ⟨k', hk', e, r⟩
    · omega
    · have := h.dC k' (.inl hk')
      simp only at this
      rw [e] at this
      omega
  · intro v h0 h1 hs
    rw [hr _ h0, if_neg hs]
    rcases h.dS v h0 h1 with hf | ⟨k, n, hk, e, r⟩
    · exact .inl hf
    · exact .inr ⟨k, ⟨n, hk⟩, e, r⟩
end

/-! with how few trips each connection can be taken -/
def min2 (a b : Int) : Int := if b < a then b else a
theorem min2_le (a b : Int) : min2 a b ≤ a ∧ min2 a b ≤ b := by unfold min2; split <;> omega
theorem min2_is (a b : Int) : min2 a b = a ∨ min2 a b = b := by unfold min2; split <;> omega
def lst0 (src t0 : Int) (c : Cn) : Int := if c.f0 = src ∧ t0 ≤ c.f2 then 1 else 17
def lst1 (l : List Cn) (R : List Int) (k : Nat) (x : Int) : Int := match bef l k with
  | some i => min2 x (rd R i)
  | none => x
def lst2 (l : List Cn) (ch : Int) (R : List Int) (c : Cn) : Nat → Int → Int
  | 0, x => x
  | i + 1, x => let y := lst2 l ch R c i x; if (cn l i).f1 = c.f0 ∧ (cn l i).f3 + ch ≤ c.f2 ∧ rd R i < 17 then min2 y (rd R i + 1) else y
def least (l : List Cn) (ch src t0 : Int) (R : List Int) (k : Nat) : Int := lst2 l ch R (cn l k) l.length (lst1 l R k (lst0 src t0 (cn l k)))
section
variable {l : List Cn} {stops ch src t0 : Int}
structure InvR (l : List Cn) (ch src t0 : Int) (R : List Int) : Prop where
  len : R.length = l.length
  in_ : ∀ k : Nat, k < l.length → 1 ≤ rd R k ∧ rd R k ≤ 17
  ont : ∀ k : Nat, k < l.length → rd R k ≤ 16 → Ont l ch src t0 (rd R k).toNat k
theorem lst2_le (R : List Int) (c : Cn) : ∀ (i : Nat) (x : Int), lst2 l ch R c i x ≤ x ∧ ∀ j, j < i → (cn l j).f1 = c.f0 → (cn l j).f3 + ch ≤ c.f2 → rd R j < 17 → lst2 l ch R c i x ≤ rd R j + 1
  | 0, x => ⟨Int.le_refl _, fun j hj => by omega⟩
  | i + 1, x => by
    obtain ⟨h1, h2⟩ := lst2_le R c i x
    simp only [lst2]
    by_cases hc : (cn l i).f1 = c.f0 ∧ (cn l i).f3 + ch ≤ c.f2 ∧ rd R i < 17
    · rw [if_pos hc]
      have m := min2_le (lst2 l ch R c i x) (rd R i + 1)
      refine ⟨by omega, fun j hj e1 e2 e3 => ?_⟩
      by_cases e : j = i
      · subst e; exact m.2
      · have := h2 j (by omega) e1 e2 e3
        omega
    · rw [if_neg hc]
      refine ⟨h1, fun j hj e1 e2 e3 => ?_⟩
      by_cases e : j = i
      · subst e; exact absurd ⟨e1, e2, e3⟩ hc
      · exact h2 j (by omega) e1 e2 e3
theorem lst2_is (R : List Int) (c : Cn) : ∀ (i : Nat) (x : Int), lst2 l ch R c i x = x ∨ ∃ j, j < i ∧ (cn l j).f1 = c.f0 ∧ (cn l j).f3 + ch ≤ c.f2 ∧ rd R j < 17 ∧ lst2 l ch R c i x = rd R j + 1
  | 0, x => .inl rfl
  | i + 1, x => by
    simp only [lst2]
    have ih := lst2_is R c i x
    by_cases hc : (cn l i).f1 = c.f0 ∧ (cn l i).f3 + ch ≤ c.f2 ∧ rd R i < 17
    · rw [if_pos hc]
      rcases min2_is (lst2 l ch R c i x) (rd R i + 1) with e | e
      · rw [e]
        rcases ih with h | ⟨j, hj, r⟩
        · exact .inl h
        · exact .inr ⟨j, by omega, r⟩
      · exact .inr ⟨i, by omega, hc.1, hc.2.1, hc.2.2, e⟩
    · rw [if_neg hc]
      rcases ih with h | ⟨j, hj, r⟩
      · exact .inl h
      · exact .inr ⟨j, by omega, r⟩
theorem least_ont {R : List Int} (h : InvR l ch src t0 R) {k : Nat} (hk : k < l.length) : 1 ≤ least l ch src t0 R k ∧ least l ch src t0 R k ≤ 17 ∧ (least l ch src t0 R k ≤ 16 → Ont l ch src t0 (least l ch src t0 R k).toNat k) := by
  have h0 : 1 ≤ lst0 src t0 (cn l k) ∧ lst0 src t0 (cn l k) ≤ 17 ∧ (lst0 src t0 (cn l k) ≤ 16 → Ont l ch src t0 (lst0 src t0 (cn l k)).toNat k) := by
    unfold lst0
    by_cases e : (cn l k).f0 = src ∧ t0 ≤ (cn l k).f2
    · rw [if_pos e]
      exact ⟨by omega, by omega, fun _ => .base (by decide) hk e.1 e.2⟩
    · rw [if_neg e]
      exact ⟨by omega, by omega, fun h => by omega⟩
  have h1 : 1 ≤ lst1 l R k (lst0 src t0 (cn l k)) ∧ lst1 l R k (lst0 src t0 (cn l k)) ≤ 17 ∧ (lst1 l R k (lst0 src t0 (cn l k)) ≤ 16 → Ont l ch src t0 (lst1 l R k (lst0 src t0 (cn l k))).toNat k) := by
    unfold lst1
    cases hb : bef l k with
    | none => exact h0
    | some i =>
      obtain ⟨b1, b2, b3⟩ := befAt_some hb
      have a := h.in_ i (by omega)
      simp only
      rcases min2_is (lst0 src t0 (cn l k)) (rd R i) with e | e
      · rw [e]; exact h0
      · rw [e]
        exact ⟨a.1, a.2, fun hx => .ride hk hb (h.ont i (by omega) hx)⟩
  unfold least
  have hle := (lst2_le (l := l) (ch := ch) R (cn l k) l.length (lst1 l R k (lst0 src t0 (cn l k)))).1
  rcases lst2_is (l := l) (ch := ch) R (cn l k) l.length (lst1 l R k (lst0 src t0 (cn l k))) with e | ⟨j, hj, e1, e2, e3, e⟩
  · rw [e]; exact h1
  · have a := h.in_ j hj
    refine ⟨by omega, by omega, fun hx => ?_⟩
    rw [e]
    have := Ont.step hk hj e1 e2 (h.ont j hj (by omega))
    rw [show (rd R j + 1).toNat = (rd R j).toNat + 1 by omega]
    exact this
theorem least_le {R : List Int} {k : Nat} (hk : k < l.length) :
    ((cn l k).f0 = src → t0 ≤ (cn l k).f2 → least l ch src t0 R k ≤ 1) ∧ (∀ i, bef l k = some i → least l ch src t0 R k ≤ rd R i) ∧ (∀ j, j < l.length → (cn l j).f1 = (cn l k).f0 → (cn l j).f3 + ch ≤ (cn l k).f2 → rd R j < 17 → least l ch src t0 R k ≤ rd R j + 1) := by
  obtain ⟨h1, h2⟩ := lst2_le (l := l) (ch := ch) R (cn l k) l.length (lst1 l R k (lst0 src t0 (cn l k)))
  have h3 : lst1 l R k (lst0 src t0 (cn l k)) ≤ lst0 src t0 (cn l k) := by
    unfold lst1
    cases bef l k with
    | none => exact Int.le_refl _
    | some i => exact (min2_le _ _).1
  refine ⟨fun e0 e1 => ?_, fun i hb => ?_, h2⟩
  · have : lst0 src t0 (cn l k) = 1 := if_pos ⟨e0, e1⟩
    unfold least
    omega
  · have : lst1 l R k (lst0 src t0 (cn l k)) ≤ rd R i := by
      unfold lst1
      rw [hb]
      exact (min2_le _ _).2
    unfold least
    omega
/-- told for good -/
def TightR (l : List Cn) (ch src t0 : Int) (R : List Int) : Prop := ∀ k, k < l.length → rd R k ≤ least l ch src t0 R k
theorem tight_le {R : List Int} (h : InvR l ch src t0 R) (ht : TightR l ch src t0 R) {n k : Nat} (ho : Ont l ch src t0 n k) : n ≤ 16 → rd R k ≤ n := by
  induction ho with
  | base hn hk hs ht' =>
    intro _
    have := ht _ hk
    have := (least_le (R := R) (ch := ch) hk).1 hs ht'
    omega
  | ride hk hb h' ih =>
    intro hn
    have := ht _ hk
    have := (least_le (R := R) (ch := ch) (src := src) (t0 := t0) hk).2.1 _ hb
    have := ih hn
    omega
  | step hk hi ht' hc h' ih =>
    intro hn
    have := ht _ hk
    have a := ih (by omega)
    have := (least_le (R := R) (ch := ch) (src := src) (t0 := t0) hk).2.2 _ hi ht' hc (by omega)
    omega
theorem rides_iff {R : List Int} (h : InvR l ch src t0 R) (ht : TightR l ch src t0 R) {most : Int} (h0 : 0 ≤ most) (h1 : most ≤ 16) (k : Nat) : (k < l.length ∧ rd R k ≤ most) ↔ Ont l ch src t0 most.toNat k := by
  constructor
  · rintro ⟨hk, hr⟩
    have a := h.in_ k hk
    exact (h.ont k hk (by omega)).mono (by omega)
  · intro ho
    have := tight_le h ht ho (by omega)
    exact ⟨ho.lt, by omega⟩
def sumI : List Int → Int
  | [] => 0
  | x :: l => x + sumI l
theorem sumI_set : ∀ (R : List Int) (k : Nat) (x : Int), k < R.length → sumI (R.set k x) = sumI R - rd R k + x
  | [], _, _, h => by simp at h
  | y :: R, 0, x, _ => by simp [sumI, rd]; omega
  | y :: R, k + 1, x, h => by
    have hk : k < R.length := by simpa using h
    have e : rd (y :: R) ((k + 1 : Nat) : Int) = rd R (k : Int) := by
      rw [rd_at0 _ _ (by simpa using h), rd_at0 _ _ hk]
      simp
    rw [e, List.set_cons_succ, sumI, sumI, sumI_set R k x hk]
    omega
theorem sumI_nonneg : ∀ (R : List Int), (∀ k : Nat, k < R.length → 0 ≤ rd R k) → 0 ≤ sumI R
  | [], _ => Int.le_refl _
  | y :: R, h => by
    have h0 : 0 ≤ y := h 0 (by simp)
    have := sumI_nonneg R (fun k hk => by
      have := h (k + 1) (by simpa using hk)
      rw [rd_at0 _ _ (by simpa using hk)] at this
      rw [rd_at0 _ _ hk]
      simpa using this)
    simp only [sumI]
    omega
abbrev StR := List Int × Bool
def stepR (l : List Cn) (ch src t0 : Int) (st : StR) (k : Nat) : StR := if least l ch src t0 st.1 k < rd st.1 k then (st.1.set k (least l ch src t0 st.1 k), true) else st
def passR (l : List Cn) (ch src t0 : Int) : Nat → StR → StR
  | 0, st => st
  | i + 1, st => stepR l ch src t0 (passR l ch src t0 i st) i
theorem InvR.nonneg {R : List Int} (h : InvR l ch src t0 R) : 0 ≤ sumI R := sumI_nonneg R (fun k hk => by have := h.in_ k (by rw [← h.len]; exact hk); omega)
theorem InvR.set {R : List Int} (h : InvR l ch src t0 R) {k : Nat} (hk : k < l.length) : InvR l ch src t0 (R.set k (least l ch src t0 R k)) := by
  have hl := h.len
  have hr : ∀ y : Nat, rd (R.set k (least l ch src t0 R k)) (y : Int) = if y = k then least l ch src t0 R k else rd R y := by
    intro y
    have := rd_set R (k : Int) (by omega) (by omega) (least l ch src t0 R k) (y : Int) (by omega)
    rw [Int.toNat_natCast] at this
    rw [this]
    by_cases e : y = k
    · simp [e]
    · have : ¬ (y : Int) = (k : Int) := by omega
      simp [e, this]
  obtain ⟨l1, l2, l3⟩ := least_ont h hk
  refine ⟨by simpa using hl, fun y hy => ?_, fun y hy => ?_⟩
  · rw [hr]
    split
    · exact ⟨l1, l2⟩
    · exact h.in_ y hy
  · rw [hr]
    by_cases e : y = k
    · subst e
      rw [if_pos rfl]
      exact l3
    · rw [if_neg e]
      exact h.ont y hy
theorem passR_inv {R : List Int} (h : InvR l ch src t0 R) (b : Bool) : ∀ i, i ≤ l.length →
    (passR l ch src t0 i (R, b) = (R, b) ∧ ∀ k, k < i → rd R k ≤ least l ch src t0 R k) ∨ ((passR l ch src t0 i (R, b)).2 = true ∧ InvR l ch src t0 (passR l ch src t0 i (R, b)).1 ∧ sumI (passR l ch src t0 i (R, b)).1 < sumI R)
  | 0, _ => .inl ⟨rfl, fun k hk => by omega⟩
  | i + 1, hi => by
    have ih := passR_inv h b i (by omega)
    simp only [passR]
    have key : ∀ (R' : List Int) (b' : Bool), InvR l ch src t0 R' → least l ch src t0 R' i < rd R' i → (stepR l ch src t0 (R', b') i).2 = true ∧ InvR l ch src t0 (stepR l ch src t0 (R', b') i).1 ∧ sumI (stepR l ch src t0 (R', b') i).1 < sumI R' := by
      intro R' b' h' hlt
      unfold stepR
      simp only
      rw [if_pos hlt]
      refine ⟨rfl, h'.set (by omega), ?_⟩
      have := sumI_set R' i (least l ch src t0 R' i) (by rw [h'.len]; omega)
      simp only
      omega
    rcases ih with ⟨e, ht⟩ | ⟨e1, e2, e3⟩
    · rw [e]
      by_cases hlt : least l ch src t0 R i < rd R i
      · exact .inr (key R b h hlt)
      · refine .inl ⟨by unfold stepR; simp only; rw [if_neg hlt], fun k hk => ?_⟩
        by_cases e' : k = i
        · subst e'; omega
        · exact ht k (by omega)
    · generalize passR l ch src t0 i (R, b) = st at e1 e2 e3
      obtain ⟨R', b'⟩ := st
      simp only at e1 e2 e3
      by_cases hlt : least l ch src t0 R' i < rd R' i
      · obtain ⟨k1, k2, k3⟩ := key R' b' e2 hlt
        exact .inr ⟨k1, k2, by omega⟩
      · refine .inr ?_
        unfold stepR
        simp only
        rw [if_neg hlt]
        exact ⟨e1, e2, e3⟩
theorem rides_end {P : List Int → Prop} (h1 : ∀ R, InvR l ch src t0 R → (passR l ch src t0 l.length (R, false)).2 = true → P (passR l ch src t0 l.length (R, false)).1 → P R)
    (h2 : ∀ R, InvR l ch src t0 R → TightR l ch src t0 R → passR l ch src t0 l.length (R, false) = (R, false) → P R) : ∀ R, InvR l ch src t0 R → P R := by
  have : ∀ (n : Nat) (R : List Int), (sumI R).toNat ≤ n → InvR l ch src t0 R → P R := by
    intro n
    induction n with
    | zero =>
      intro R hs h
      have h0 := h.nonneg
      rcases passR_inv h false l.length (Nat.le_refl _) with ⟨e, ht⟩ | ⟨e1, e2, e3⟩
      · exact h2 R h ht e
      · have := e2.nonneg; omega
    | succ n ih =>
      intro R hs h
      rcases passR_inv h false l.length (Nat.le_refl _) with ⟨e, ht⟩ | ⟨e1, e2, e3⟩
      · exact h2 R h ht e
      · have := e2.nonneg
        exact h1 R h e1 (ih _ (by omega) e2)
  exact fun R h => this _ R (Nat.le_refl _) h
theorem rides0_inv (n : Nat) (hn : n = l.length) : InvR l ch src t0 (List.replicate n 17) := by
  subst hn
  refine ⟨by simp, fun k hk => ?_, fun k hk => ?_⟩
  · rw [rd_rep (by omega) (by omega)]; omega
  · rw [rd_rep (by omega) (by omega)]; omega

/-! the arrivals by these -/
def stepA (R : List Int) (most : Int) (l : List Cn) (d : List Int) (k : Nat) : List Int := if rd R k ≤ most then d.set (cn l k).f1.toNat (min2 (rd d (cn l k).f1) (cn l k).f3) else d
def passA (R : List Int) (most : Int) (l : List Cn) : Nat → List Int → List Int
  | 0, d => d
  | i + 1, d => stepA R most l (passA R most l i d) i
def arrL (R : List Int) (most : Int) (l : List Cn) (stops src t0 : Int) : List Int := (passA R most l l.length (List.replicate stops.toNat 99999)).set src.toNat t0
structure IA (R : List Int) (most : Int) (l : List Cn) (stops : Int) (i : Nat) (d : List Int) : Prop where
  len : (d.length : Int) = stops
  dS : ∀ v, 0 ≤ v → v < stops → rd d v = 99999 ∨ ∃ k, (k < l.length ∧ rd R k ≤ most) ∧ (cn l k).f1 = v ∧ rd d v = (cn l k).f3
  dC : ∀ k, k < i → rd R k ≤ most → rd d (cn l k).f1 ≤ (cn l k).f3
theorem passA_inv (ok : Ok stops ch l) (R : List Int) (most : Int) : ∀ i, i ≤ l.length → IA R most l stops i (passA R most l i (List.replicate stops.toNat 99999))
  | 0, _ => by
    have := ok.s1
    exact ⟨by simp [passA]; omega, fun v h0 h1 => .inl (rd_rep h0 (by omega)), fun k hk => by omega⟩
  | i + 1, hi => by
    have h := passA_inv ok R most i (by omega)
    have a := ok.at_ i (by omega)
    simp only [passA]
    generalize passA R most l i (List.replicate stops.toNat 99999) = d at h
    unfold stepA
    by_cases hc : rd R i ≤ most
    · rw [if_pos hc]
      have hlen := h.len
      have hr : ∀ y : Int, 0 ≤ y → rd (d.set (cn l i).f1.toNat (min2 (rd d (cn l i).f1) (cn l i).f3)) y = if y = (cn l i).f1 then min2 (rd d (cn l i).f1) (cn l i).f3 else rd d y := fun y hy => rd_set _ _ (by omega) (by omega) _ _ hy
      have m := min2_le (rd d (cn l i).f1) (cn l i).f3
      refine ⟨by simpa using hlen, fun v h0 h1 => ?_, fun k hk hR => ?_⟩
      · rw [hr v h0]
        by_cases e : v = (cn l i).f1
        · rw [if_pos e]
          rcases min2_is (rd d (cn l i).f1) (cn l i).f3 with e' | e'
          · rw [e', ← e]
            exact h.dS v h0 h1
          · exact .inr ⟨i, ⟨by omega, hc⟩, e.symm, e'⟩
        · rw [if_neg e]
          exact h.dS v h0 h1
      · have b := ok.at_ k (by omega)
        rw [hr _ (by omega)]
        by_cases e : (cn l k).f1 = (cn l i).f1
        · rw [if_pos e]
          by_cases hki : k = i
          · subst hki; exact m.2
          · have := h.dC k (by omega) hR
            rw [e] at this
            omega
        · rw [if_neg e]
          by_cases hki : k = i
          · subst hki; exact absurd rfl e
          · exact h.dC k (by omega) hR
    · rw [if_neg hc]
      refine ⟨h.len, h.dS, fun k hk hR => ?_⟩
      by_cases hki : k = i
      · subst hki; exact absurd hR hc
      · exact h.dC k (by omega) hR
theorem arrL_arr (ok : Ok stops ch l) (hsrc : 0 ≤ src ∧ src < stops) {R : List Int} {most : Int} : IsArr l stops src t0 (fun k => k < l.length ∧ rd R k ≤ most) (arrL R most l stops src t0) := by
  have h := passA_inv ok R most l.length (Nat.le_refl _)
  have hlen := h.len
  have hr : ∀ y : Int, 0 ≤ y → rd (arrL R most l stops src t0) y = if y = src then t0 else rd (passA R most l l.length (List.replicate stops.toNat 99999)) y := fun y hy => rd_set _ _ hsrc.1 (by omega) _ _ hy
  refine ⟨by simpa [arrL] using hlen, by rw [hr _ hsrc.1, if_pos rfl], fun k hk hs => ?_, fun v h0 h1 hs => ?_⟩
  · have a := ok.at_ k hk.1
    rw [hr _ a.2.2.1, if_neg hs]
    exact h.dC k hk.1 hk.2
  · rw [hr _ h0, if_neg hs]
    exact h.dS v h0 h1
/-- the program's arrivals are the reference's -/
theorem arrL_eq (ok : Ok stops ch l) (hch : Chain l) (hsrc : 0 ≤ src ∧ src < stops) {R : List Int} (hR : InvR l ch src t0 R) (hT : TightR l ch src t0 R) {most : Nat} (hm : most ≤ 16) :
    arrL R most l stops src t0 = arrN ch src t0 l stops most :=
  (arrL_arr ok hsrc).uniq ok (fun k h => h.1) (fun k h => h.lt) (arrN_arr ok hch hsrc most) (fun k => by
    have := rides_iff hR hT (most := (most : Int)) (by omega) (by omega) k
    rwa [Int.toNat_natCast] at this)
theorem all6_eq (ok : Ok stops ch l) (hch : Chain l) (ht0 : t0 ≤ 199) (hsrc : 0 ≤ src ∧ src < stops) (j : Nat) (hj : stops ≤ j + 1 ∨ l.length ≤ j) : all6 ch src t0 l stops = arrN ch src t0 l stops j :=
  (all6_arr ok hch ht0 hsrc).uniq ok (fun k ⟨n, h⟩ => h.lt) (fun k ⟨n, h⟩ => h.lt) (all_arr ok hch ht0 (fun j => arrN_arr ok hch hsrc j) hsrc j hj) (fun _ => Iff.rfl)
end
end Go.Proofs.Ytcklifkbodmoaaa.M
