/- Up and down in a hierarchy: each way has one that goes up, then down, and costs no more. -/
import Derived.Test.YtdlaaccnaokdnaaMRankF
set_option linter.unusedVariables false
namespace Go.Proofs.Ytdlaaccnaokdnaa.M
open Go.RowKit Go.Proofs.Ytdlaaccnaokdnaa.P Go.Proofs.YtdlaaccnaokdnaaV.PrintWords Go.Proofs.YtdlaaccnaokdnaaV.PrintMore
/-- m is taken ahead of a -/
def Bf (l : List Int) (m a : Int) : Prop := ∃ pre later, l = pre ++ m :: later ∧ a ∈ later
theorem split_uniq {m : Int} : ∀ {pre pre' later later' : List Int}, (pre ++ m :: later).Nodup → pre ++ m :: later = pre' ++ m :: later' → later = later'
  | [], [], _, _, _, e => (List.cons.inj e).2
  | [], p :: pre', later, later', hn, e => by
    obtain ⟨e1, e2⟩ := List.cons.inj e
    have := (List.nodup_cons.1 hn).1
    exact absurd (e2 ▸ (by simp : m ∈ pre' ++ m :: later')) this
  | p :: pre, [], later, later', hn, e => by
    obtain ⟨e1, e2⟩ := List.cons.inj e
    have := (List.nodup_cons.1 hn).1
    exact absurd (e1 ▸ (by simp : m ∈ pre ++ m :: later)) this
  | p :: pre, q :: pre', later, later', hn, e => split_uniq (List.nodup_cons.1 hn).2 (List.cons.inj e).2
theorem bf_total {a b : Int} : ∀ {l : List Int}, a ∈ l → b ∈ l → a ≠ b → Bf l a b ∨ Bf l b a
  | [], ha, _, _ => by cases ha
  | x :: l, ha, hb, hab => by
    rcases List.mem_cons.1 ha with e1 | ha2
    · rcases List.mem_cons.1 hb with e2 | hb2
      · exact absurd (e1.trans e2.symm) hab
      · exact .inl ⟨[], l, by rw [e1]; rfl, hb2⟩
    · rcases List.mem_cons.1 hb with e2 | hb2
      · exact .inr ⟨[], l, by rw [e2]; rfl, ha2⟩
      · rcases bf_total ha2 hb2 hab with ⟨p, q, e, h⟩ | ⟨p, q, e, h⟩
        · exact .inl ⟨x :: p, q, by rw [e]; rfl, h⟩
        · exact .inr ⟨x :: p, q, by rw [e]; rfl, h⟩
theorem Bf.ne {l : List Int} (hn : l.Nodup) {a b : Int} (h : Bf l a b) : a ≠ b := by
  obtain ⟨p, q, rfl, hb⟩ := h
  rintro rfl
  have := (List.nodup_append.1 hn).2.1
  exact (List.nodup_cons.1 this).1 hb
theorem Bf.mem {l : List Int} {a b : Int} (h : Bf l a b) : a ∈ l ∧ b ∈ l := by
  obtain ⟨p, q, rfl, hb⟩ := h
  exact ⟨by simp, by simp [hb]⟩
/-- what bends: over a node that is taken ahead of both -/
def Bends (l : List Int) (C : Int → Int → Int) : Prop := ∀ m a b : Int, Bf l m a → Bf l m b → a ≠ b → C a b ≤ C a m + C m b
theorem rkAll_bends {l : List Int} (hn : l.Nodup) {s : Tabs} (h : Box s) : Bends l (rkAll l s).1 := by
  rintro m a b ⟨p, q, e, ha⟩ ⟨p', q', e', hb⟩ hab
  have : q = q' := split_uniq (e ▸ hn) (e.symm.trans e')
  exact rkAll_tri l hn h p q m e a ha b (this ▸ hb) hab
inductive UpP (l : List Int) (C : Int → Int → Int) (s : Int) : Int → Int → Prop
  | nil : UpP l C s s 0
  | snoc {y z c : Int} (w : UpP l C s y c) (h : Bf l y z) : UpP l C s z (c + C y z)
inductive DnP (l : List Int) (C : Int → Int → Int) (m : Int) : Int → Int → Prop
  | nil : DnP l C m m 0
  | snoc {y z c : Int} (w : DnP l C m y c) (h : Bf l z y) : DnP l C m z (c + C y z)
theorem bend {l : List Int} {C : Int → Int → Int} (hb : Bends l C) (h0 : ∀ a b, 0 ≤ C a b) {s m y e : Int} (d : DnP l C m y e) (hm : y ∈ l) : ∀ (z w u : Int), UpP l C s m u → z ∈ l → y ≠ z → C y z ≤ w → ∃ m' u' e', UpP l C s m' u' ∧ DnP l C m' z e' ∧ u' + e' ≤ u + e + w := by
  induction d with
  | nil =>
    intro z w u hu hz hne hw
    rcases bf_total hm hz hne with h | h
    · exact ⟨z, _, _, hu.snoc h, .nil, by omega⟩
    · exact ⟨m, u, _, hu, DnP.nil.snoc h, by omega⟩
  | snoc d h ih =>
    rename_i v y c
    intro z w u hu hz hne hw
    rcases bf_total hm hz hne with h2 | h2
    · have hv := h.mem.2
      have n1 := h0 v y
      have n2 := h0 y z
      by_cases e : v = z
      · subst e
        exact ⟨m, u, c, hu, d, by omega⟩
      · obtain ⟨m', u', e', a1, a2, a3⟩ := ih hv z (C v y + w) u hu hz e (by have := hb y v z h h2 e; omega)
        exact ⟨m', u', e', a1, a2, by omega⟩
    · exact ⟨m, u, _, hu, (d.snoc h).snoc h2, by omega⟩
end Go.Proofs.Ytdlaaccnaokdnaa.M
