/- What a law is handed, read as data, lies in memory as the contracts ask it: numbers, slices of them, slices of structs, slices of slices. -/
import Derived.Test.YtjmpngfgfddpaaaVRoom
import Derived.Deep.Slices
import Derived.Lib.SmallJoins
set_option linter.unusedVariables false
namespace Go.Proofs.YtjmpngfgfddpaaaV.PrintWords
open Go.RowKit Go.Deep
/-- every reading of type t is a value of kind d, of which wf holds -/
structure Opens {α : Type} (d : Kd α) (wf : α → Prop) (P : Program) (t : TypeId) : Prop where
  go : ∀ {H : Type} {enc : TypeId × Value → H} {W : World} {spare : Nat → Bool} {held : Bool} {fuel : Nat} {cs : List Value} {x : DataW H × List MemPlace}, DataW.trod enc P W 0 spare held fuel t cs = some x → ∃ y, d.K W y cs ∧ wf y
theorem Opens.int {P : Program} {t : TypeId} {k : IntKind} (ht : P.underlying t = some (.int k)) : Opens (Kd.int k) (fun n => (Lit.int k n).wf = true) P t := by
  constructor
  intro H enc W spare held fuel cs x h
  obtain ⟨n, rfl, _, hw⟩ := DataW.trod_int ht h
  exact ⟨n, rfl, hw⟩
theorem Opens.slice {α : Type} {d : Kd α} {wf : α → Prop} {P : Program} {t e : TypeId} (ht : P.underlying t = some (.slice e)) (hc : P.cellsOf e = d.sz) (he : Opens d wf P e) : Opens (Kd.slice e d) (fun l => ∀ x ∈ l, wf x) P t := by
  constructor
  intro H enc W spare held fuel cs x h
  rcases open_slice ht h with ⟨rfl, _⟩ | ⟨a, len, cap, m, n, D, Pl, rfl, hb, hl, hm, hmm, _, hx⟩
  · exact ⟨[], ⟨none, 0, rfl, Nat.le_refl _, rfl, by simp, fun h => absurd h (Nat.lt_irrefl _)⟩, fun x hx => by cases hx⟩
  · have hlm : len ≤ m := by rw [hmm]; split <;> omega
    have hy : ∀ i, i < len → ∃ y : α, wf y ∧ ∃ c, c.length = d.sz ∧ d.K W y c ∧ ∀ j u, c[j]? = some u → W.cell? (a.add (i * d.sz + j)) = some u := by
      intro i hi
      obtain ⟨cs', h1, h2⟩ := hx i (by omega)
      obtain ⟨y, hK, hw⟩ := he.go h2
      obtain ⟨_, hlen, hcell⟩ := World.cells?_some h1
      refine ⟨y, hw, cs', by rw [hlen, hc], hK, fun j u hu => ?_⟩
      obtain ⟨hjl, _⟩ := List.getElem?_eq_some_iff.1 hu
      have := hcell j (hlen ▸ hjl)
      rw [add_add, hc, hu] at this
      exact this
    have hex : ∃ l : List α, l.length = len ∧ ∀ i (hi : i < l.length), wf l[i] ∧ ∃ c, c.length = d.sz ∧ d.K W l[i] c ∧ ∀ j u, c[j]? = some u → W.cell? (a.add (i * d.sz + j)) = some u := by
      clear hx hl hm hmm hlm h
      have key : ∀ k, k ≤ len → ∃ l : List α, l.length = k ∧ ∀ i (hi : i < l.length), wf l[i] ∧ ∃ c, c.length = d.sz ∧ d.K W l[i] c ∧ ∀ j u, c[j]? = some u → W.cell? (a.add (i * d.sz + j)) = some u := by
        intro k
        induction k with
        | zero => intro _; exact ⟨[], rfl, fun i hi => absurd hi (Nat.not_lt_zero _)⟩
        | succ k ih =>
          intro hk
          obtain ⟨l, hl, hP⟩ := ih (by omega)
          obtain ⟨y, hw, hr⟩ := hy k (by omega)
          refine ⟨l ++ [y], by simp [hl], fun i hi => ?_⟩
          by_cases h : i < l.length
          · rw [List.getElem_append_left h]
            exact hP i h
          · have : i = k := by simp at hi; omega
            subst this
            have e1 : (l ++ [y])[i] = y := by rw [List.getElem_append_right (by omega)]; simp [hl]
            rw [e1]
            exact ⟨hw, hr⟩
      exact key len (Nat.le_refl _)
    obtain ⟨l, hll, hP⟩ := hex
    refine ⟨l, ⟨some a, cap, by rw [hll], by omega, rfl, by simp only [maxLen] at hm; omega, fun _ => ⟨a, rfl, fun j p hj => ?_⟩⟩, fun x hx => ?_⟩
    · obtain ⟨hjl, hp⟩ := List.getElem?_eq_some_iff.1 hj
      obtain ⟨_, c, h1, h2, h3⟩ := hP j hjl
      rw [hp] at h2
      exact ⟨c, h1, h2, h3⟩
    · obtain ⟨i, hi, rfl⟩ := List.getElem_of_mem hx
      exact (hP i hi).1
theorem Opens.bool {P : Program} {t : TypeId} (ht : P.underlying t = some .bool) : Opens Kd.bool (fun _ => True) P t := by
  constructor
  intro H enc W spare held fuel cs x h
  obtain ⟨b, rfl, _⟩ := DataW.trod_bool ht h
  exact ⟨b, rfl, trivial⟩
theorem Opens.conv {α : Type} {d : Kd α} {wf wf' : α → Prop} {P : Program} {t : TypeId} (h : Opens d wf P t) (hw : ∀ y, wf y → wf' y) : Opens d wf' P t := by
  constructor
  intro H enc W spare held fuel cs x hx
  obtain ⟨y, hK, h2⟩ := h.go hx
  exact ⟨y, hK, hw y h2⟩
theorem Opens.iso {α β : Type} {d : Kd α} {wf : α → Prop} {P : Program} {t : TypeId} {f : β → α} (g : α → β) (hg : ∀ y, f (g y) = y) (h : Opens d wf P t) : Opens (Kd.iso d f) (fun x => wf (f x)) P t := by
  constructor
  intro H enc W spare held fuel cs x hx
  obtain ⟨y, hK, h2⟩ := h.go hx
  refine ⟨g y, ?_, ?_⟩
  · show d.K W (f (g y)) cs
    rw [hg]
    exact hK
  · show wf (f (g y))
    rw [hg]
    exact h2
/-- the fields of a struct from a place on -/
structure OpensF {α : Type} (d : Kd α) (wf : α → Prop) (P : Program) (off : Nat) (fs : List Field) : Prop where
  go : ∀ {H : Type} {enc : TypeId × Value → H} {W : World} {spare : Nat → Bool} {held : Bool} {fuel : Nat} {cs : List Value}, cs.length = off + d.sz → (∀ f ∈ fs, ∃ x, DataW.trod enc P W 0 spare held fuel f.type ((cs.drop f.offset).take (P.cellsOf f.type)) = some x) → ∃ y, d.K W y (cs.drop off) ∧ wf y
theorem OpensF.one {α : Type} {d : Kd α} {wf : α → Prop} {P : Program} {off : Nat} {f : Field} (ho : f.offset = off) (hz : P.cellsOf f.type = d.sz) (h : Opens d wf P f.type) : OpensF d wf P off [f] := by
  constructor
  intro H enc W spare held fuel cs hl hx
  obtain ⟨x, hx⟩ := hx f (List.mem_singleton.2 rfl)
  rw [ho, hz, List.take_of_length_le (by rw [List.length_drop]; omega)] at hx
  exact h.go hx
theorem OpensF.cons {α β : Type} {d : Kd α} {d2 : Kd β} {wf : α → Prop} {wf2 : β → Prop} {P : Program} {off off2 : Nat} {f : Field} {fs : List Field} (ho : f.offset = off) (hz : P.cellsOf f.type = d.sz) (h : Opens d wf P f.type) (ho2 : off2 = off + d.sz) (h2 : OpensF d2 wf2 P off2 fs) : OpensF (Kd.pair d d2) (fun y => wf y.1 ∧ wf2 y.2) P off (f :: fs) := by
  constructor
  intro H enc W spare held fuel cs hl hx
  have hl' : cs.length = off + (d.sz + d2.sz) := hl
  obtain ⟨x, h1⟩ := hx f List.mem_cons_self
  rw [ho, hz] at h1
  obtain ⟨y, hK, hw⟩ := h.go h1
  obtain ⟨y2, hK2, hw2⟩ := h2.go (cs := cs) (by rw [hl', ho2, Nat.add_assoc]) (fun g hg => hx g (List.mem_cons_of_mem _ hg))
  refine ⟨(y, y2), ⟨_, _, ?_, hK, hK2⟩, hw, hw2⟩
  rw [ho2, ← List.drop_drop, List.take_append_drop]
theorem Opens.struct {α : Type} {d : Kd α} {wf : α → Prop} {P : Program} {t : TypeId} {fs : Array Field} (ht : P.underlying t = some (.struct fs)) (hz : P.cellsOf t = d.sz) (h : OpensF d wf P 0 fs.toList) : Opens d wf P t := by
  constructor
  intro H enc W spare held fuel cs x hx
  obtain ⟨xs, n, rfl, _, hl, hxl, hf⟩ := DataW.trod_struct ht hx
  obtain ⟨y, hK, hw⟩ := h.go (cs := cs) (fuel := n) (enc := enc) (W := W) (spare := spare) (held := held) (by rw [hl, hz]; omega) (fun f hm => by
    obtain ⟨i, hi, rfl⟩ := List.getElem_of_mem hm
    have hi' : i < fs.size := by simpa using hi
    have := hf i fs[i] (by simp [hi'])
    rw [List.getElem?_eq_getElem (by omega)] at this
    exact ⟨_, by simpa using this⟩)
  exact ⟨y, by simpa using hK, hw⟩
theorem arr_of_list {cs : Array Value} {l : List Value} (h : cs.toList = l) : cs = ⟨l⟩ := by
  cases cs
  simpa using h
/-- the parts of a slice's reading -/
theorem Opens.at_slice {α : Type} {d : Kd α} {wf : α → Prop} {P : Program} {t e : TypeId} (h : Opens (Kd.slice e d) (fun l => ∀ x ∈ l, wf x) P t) {H : Type} {enc : TypeId × Value → H} {W : World} {spare : Nat → Bool} {held : Bool} {fuel : Nat} {v : Value} {x : DataW H × List MemPlace}
    (hd : DataW.trod enc P W 0 spare held fuel t [v] = some x) : ∃ A c l, v = .slice A l.length c ∧ l.length ≤ c ∧ Kd.C d W A l.length l ∧ ∀ x ∈ l, wf x := by
  obtain ⟨l, ⟨A, c, e1, h1, h2⟩, hw⟩ := h.go hd
  exact ⟨A, c, l, by simpa using e1, h1, h2, hw⟩
theorem Opens.at_int {k : IntKind} {P : Program} {t : TypeId} (h : Opens (Kd.int k) (fun n => (Lit.int k n).wf = true) P t) {H : Type} {enc : TypeId × Value → H} {W : World} {spare : Nat → Bool} {held : Bool} {fuel : Nat} {v : Value} {x : DataW H × List MemPlace}
    (hd : DataW.trod enc P W 0 spare held fuel t [v] = some x) : ∃ n, v = .int k n ∧ (Lit.int k n).wf = true := by
  obtain ⟨n, e1, hw⟩ := h.go hd
  have e2 : [v] = [Value.int k n] := e1
  exact ⟨n, by injection e2, hw⟩
end Go.Proofs.YtjmpngfgfddpaaaV.PrintWords
