/- Up and down in a hierarchy: each way has one that goes up, then down, and costs no more. -/
import Derived.Test.YtdlaaccnaokdnaaMRankF
set_option linter.unusedVariables false
namespace Go.Proofs.Ytdlaaccnaokdnaa.M
open Go.RowKit Go.Proofs.Ytdlaaccnaokdnaa.P Go.Proofs.YtdlaaccnaokdnaaV.PrintWords Go.Proofs.YtdlaaccnaokdnaaV.PrintMore
/-- m is taken ahead of a -/
def Bf (l : List Int) (m a : Int) : Prop := ∃ pre later, l = pre ++ m :: later ∧ a ∈ later
theorem split_uniq {m : Int} : ∀ {pre pre' later later' : List Int}, (pre ++ m :: later).Nodup → pre ++ m :: later = pre' ++ m :: later' → later = later'
  | [], [], _, _, _, e => (List.cons.inj e).2
  | [], p :: pre', later, later', hn, e => by
    obtain ⟨e1, e2⟩ := List.cons.inj e
    have := (List.nodup_cons.1 hn).1
    exact absurd (e2 ▸ (by simp : m ∈ pre' ++ m :: later')) this
  | p :: pre, [], later, later', hn, e => by
    obtain ⟨e1, e2⟩ := List.cons.inj e
    have := (List.nodup_cons.1 hn).1
    exact absurd (e1 ▸ (by simp : m ∈ pre ++ m :: later)) this
  | p :: pre, q :: pre', later, later', hn, e => split_uniq (List.nodup_cons.1 hn).2 (List.cons.inj e).2
theorem bf_total {a b : Int} : ∀ {l : List Int}, a ∈ l → b ∈ l → a ≠ b → Bf l a b ∨ Bf l b a
  | [], ha, _, _ => by cases ha
  | x :: l, ha, hb, hab => by
    rcases List.mem_cons.1 ha with e1 | ha2
    · rcases List.mem_cons.1 hb with e2 | hb2
      · exact absurd (e1.trans e2.symm) hab
      · exact .inl ⟨[], l, by rw [e1]; rfl, hb2⟩
    · rcases List.mem_cons.1 hb with e2 | hb2
      · exact .inr ⟨[], l, by rw [e2]; rfl, ha2⟩
      · rcases bf_total ha2 hb2 hab with ⟨p, q, e, h⟩ | ⟨p, q, e, h⟩
        · exact .inl ⟨x :: p, q, by rw [e]; rfl, h⟩
        · exact .inr ⟨x :: p, q, by rw [e]; rfl, h⟩
theorem Bf.ne {l : List Int} (hn : l.Nodup) {a b : Int} (h : Bf l a b) : a ≠ b := by
  obtain ⟨p, q, rfl, hb⟩ := h
  rintro rfl
  have := (List.nodup_append.1 hn).2.1
  exact (List.nodup_cons.1 this).1 hb
theorem Bf.mem {l : List Int} {a b : Int} (h : Bf l a b) : a ∈ l ∧ b ∈ l := by
  obtain ⟨p, q, rfl, hb⟩ := h
  exact ⟨by simp, by simp [hb]⟩
/-- what bends: over a node that is taken ahead of both -/
def Bends (l : List Int) (C : Int → Int → Int) : Prop := ∀ m a b : Int, Bf l m a → Bf l m b → a ≠ b → C a b ≤ C a m + C m b
theorem rkAll_bends {l : List Int} (hn : l.Nodup) {s : Tabs} (h : Box s) : Bends l (rkAll l s).1 := by
  rintro m a b ⟨p, q, e, ha⟩ ⟨p', q', e', hb⟩ hab
  have : q = q' := split_uniq (e ▸ hn) (e.symm.trans e')
  exact rkAll_tri l hn h p q m e a ha b (this ▸ hb) hab
inductive UpP (l : List Int) (C : Int → Int → Int) (s : Int) : Int → Int → Prop
  | nil : UpP l C s s 0
  | snoc {y z c : Int} (w : UpP l C s y c) (h : Bf l y z) : UpP l C s z (c + C y z)
inductive DnP (l : List Int) (C : Int → Int → Int) (m : Int) : Int → Int → Prop
  | nil : DnP l C m m 0
  | snoc {y z c : Int} (w : DnP l C m y c) (h : Bf l z y) : DnP l C m z (c + C y z)
theorem bend {l : List Int} {C : Int → Int → Int} (hb : Bends l C) (h0 : ∀ a b, 0 ≤ C a b) {s m y e : Int} (d : DnP l C m y e) (hm : y ∈ l) : ∀ (z w u : Int), UpP l C s m u → z ∈ l → y ≠ z → C y z ≤ w → ∃ m' u' e', UpP l C s m' u' ∧ DnP l C m' z e' ∧ u' + e' ≤ u + e + w := by
  induction d with
  | nil =>
    intro z w u hu hz hne hw
    rcases bf_total hm hz hne with h | h
    · exact ⟨z, _, _, hu.snoc h, .nil, by omega⟩
    · exact ⟨m, u, _, hu, DnP.nil.snoc h, by omega⟩
  | snoc d h ih =>
    rename_i v y c
    intro z w u hu hz hne hw
    rcases bf_total hm hz hne with h2 | h2
    · have hv := h.mem.2
      have n1 := h0 v y
      have n2 := h0 y z
      by_cases e : v = z
      · subst e
        exact ⟨m, u, c, hu, d, by omega⟩
      · obtain ⟨m', u', e', a1, a2, a3⟩ := ih hv z (C v y + w) u hu hz e (by have := hb y v z h h2 e; omega)
        exact ⟨m', u', e', a1, a2, by omega⟩
    · exact ⟨m, u, _, hu, (d.snoc h).snoc h2, by omega⟩
/-- in m's turn: an entry is as it was, or goes over m -/
def Via (m : Int) (later : List Int) (s t : Tabs) : Prop := ∀ a b : Int, (t.1 a b = s.1 a b ∧ t.2 a b = s.2 a b) ∨ (a ≠ b ∧ a ∈ later ∧ b ∈ later ∧ t.2 a b = m ∧ t.1 a b = s.1 a m + s.1 m b)
theorem Via.fix {m : Int} {later : List Int} (hm : m ∉ later) {s t : Tabs} (h : Via m later s t) (x : Int) : t.1 x m = s.1 x m ∧ t.1 m x = s.1 m x := by
  constructor
  · rcases h x m with h1 | h1
    · exact h1.1
    · exact absurd h1.2.2.1 hm
  · rcases h m x with h1 | h1
    · exact h1.1
    · exact absurd h1.2.1 hm
theorem rkAB_via {m : Int} {later : List Int} (hm : m ∉ later) {s t : Tabs} (h : Via m later s t) {a b : Int} (ha : a ∈ later) (hb : b ∈ later) : Via m later s (rkAB m t a b) := by
  unfold rkAB
  by_cases hc : a ≠ b ∧ t.1 a m < 99999 ∧ t.1 m b < 99999 ∧ t.1 a m + t.1 m b < t.1 a b
  · rw [if_pos hc]
    intro x y
    show (upd t.1 a b (t.1 a m + t.1 m b) x y = s.1 x y ∧ upd t.2 a b m x y = s.2 x y) ∨ (x ≠ y ∧ x ∈ later ∧ y ∈ later ∧ upd t.2 a b m x y = m ∧ upd t.1 a b (t.1 a m + t.1 m b) x y = s.1 x m + s.1 m y)
    unfold upd
    by_cases e : x = a ∧ y = b
    · rw [if_pos e, if_pos e]
      refine .inr ⟨by rw [e.1, e.2]; exact hc.1, e.1 ▸ ha, e.2 ▸ hb, rfl, ?_⟩
      rw [(h.fix hm a).1, (h.fix hm b).2, e.1, e.2]
    · rw [if_neg e, if_neg e]; exact h x y
  · rw [if_neg hc]; exact h
theorem rkRow_via {m a : Int} {later : List Int} (hm : m ∉ later) (ha : a ∈ later) {s : Tabs} : ∀ (l : List Int), (∀ b ∈ l, b ∈ later) → ∀ {t : Tabs}, Via m later s t → Via m later s (l.foldl (fun s b => rkAB m s a b) t)
  | [], _, t, h => h
  | b :: l, hl, t, h => rkRow_via hm ha l (fun x hx => hl x (by simp [hx])) (rkAB_via hm h ha (hl b (by simp)))
theorem rkNode_via {m : Int} {later : List Int} (hm : m ∉ later) {s : Tabs} : ∀ (l : List Int), (∀ b ∈ l, b ∈ later) → ∀ {t : Tabs}, Via m later s t → Via m later s (l.foldl (rkRow m later) t)
  | [], _, t, h => h
  | a :: l, hl, t, h => rkNode_via hm l (fun x hx => hl x (by simp [hx])) (rkRow_via hm (hl a (by simp)) later (fun _ x => x) h)
theorem Bf.cons {l : List Int} {m a : Int} (x : Int) (h : Bf l m a) : Bf (x :: l) m a := by
  obtain ⟨p, q, e, ha⟩ := h
  exact ⟨x :: p, q, by rw [e]; rfl, ha⟩
/-- in the end: an entry is as at first, or goes over a node that is taken ahead of both its ends, and costs as much as by way of it -/
theorem rkAll_over : ∀ (l : List Int), l.Nodup → ∀ (s : Tabs) (a b : Int), ((rkAll l s).1 a b = s.1 a b ∧ (rkAll l s).2 a b = s.2 a b) ∨ (a ≠ b ∧ Bf l ((rkAll l s).2 a b) a ∧ Bf l ((rkAll l s).2 a b) b ∧ (rkAll l s).1 a b = (rkAll l s).1 a ((rkAll l s).2 a b) + (rkAll l s).1 ((rkAll l s).2 a b) b)
  | [], _, s, a, b => .inl ⟨rfl, rfl⟩
  | m :: l, hn, s, a, b => by
    have hn2 := List.nodup_cons.1 hn
    have hv : Via m l s (rkNode m l s) := rkNode_via hn2.1 l (fun _ x => x) (fun _ _ => .inl ⟨rfl, rfl⟩)
    have hd := rkAll_dn l (rkNode m l s)
    show ((rkAll l (rkNode m l s)).1 a b = s.1 a b ∧ (rkAll l (rkNode m l s)).2 a b = s.2 a b) ∨ _
    rcases rkAll_over l hn2.2 (rkNode m l s) a b with ⟨e1, e2⟩ | ⟨h1, h2, h3, h4⟩
    · rcases hv a b with ⟨f1, f2⟩ | ⟨g1, g2, g3, g4, g5⟩
      · exact .inl ⟨e1.trans f1, e2.trans f2⟩
      · refine .inr ⟨g1, ?_, ?_, ?_⟩
        · show Bf (m :: l) ((rkAll l (rkNode m l s)).2 a b) a
          rw [e2, g4]
          exact ⟨[], l, rfl, g2⟩
        · show Bf (m :: l) ((rkAll l (rkNode m l s)).2 a b) b
          rw [e2, g4]
          exact ⟨[], l, rfl, g3⟩
        · show (rkAll l (rkNode m l s)).1 a b = (rkAll l (rkNode m l s)).1 a ((rkAll l (rkNode m l s)).2 a b) + (rkAll l (rkNode m l s)).1 ((rkAll l (rkNode m l s)).2 a b) b
          rw [e2, g4, e1, g5, (hd.out a m (fun z => hn2.1 z.2)).1, (hd.out m b (fun z => hn2.1 z.1)).1, (hv.fix hn2.1 a).1, (hv.fix hn2.1 b).2]
    · exact .inr ⟨h1, h2.cons m, h3.cons m, h4⟩
section
variable {R : Int → Prop} {d : Int → Int → Int}
def Ge (R : Int → Prop) (d : Int → Int → Int) (s : Tabs) : Prop := ∀ x y : Int, R x → R y → d x y ≤ s.1 x y
theorem rkAB_ge (ht : ∀ a m b, R a → R m → R b → d a b ≤ d a m + d m b) {s : Tabs} (h : Ge R d s) {m a b : Int} (hm : R m) : Ge R d (rkAB m s a b) := by
  unfold rkAB
  by_cases hc : a ≠ b ∧ s.1 a m < 99999 ∧ s.1 m b < 99999 ∧ s.1 a m + s.1 m b < s.1 a b
  · rw [if_pos hc]
    intro x y hx hy
    show d x y ≤ upd s.1 a b (s.1 a m + s.1 m b) x y
    unfold upd
    by_cases e : x = a ∧ y = b
    · rw [if_pos e, ← e.1, ← e.2]
      have h1 := ht x m y hx hm hy
      have h2 := h x m hx hm
      have h3 := h m y hm hy
      omega
    · rw [if_neg e]; exact h x y hx hy
  · rw [if_neg hc]; exact h
theorem rkRow_ge (ht : ∀ a m b, R a → R m → R b → d a b ≤ d a m + d m b) {m a : Int} (hm : R m) : ∀ (l : List Int) {s : Tabs}, Ge R d s → Ge R d (l.foldl (fun s b => rkAB m s a b) s)
  | [], s, h => h
  | b :: l, s, h => rkRow_ge ht hm l (rkAB_ge ht h hm)
theorem rkNode_ge (ht : ∀ a m b, R a → R m → R b → d a b ≤ d a m + d m b) {m : Int} {later : List Int} (hm : R m) : ∀ (l : List Int) {s : Tabs}, Ge R d s → Ge R d (l.foldl (rkRow m later) s)
  | [], s, h => h
  | a :: l, s, h => rkNode_ge ht hm l (rkRow_ge ht hm later h)
theorem rkAll_ge (ht : ∀ a m b, R a → R m → R b → d a b ≤ d a m + d m b) : ∀ (l : List Int) {s : Tabs}, (∀ x ∈ l, R x) → Ge R d s → Ge R d (rkAll l s)
  | [], s, _, h => h
  | m :: l, s, hl, h => rkAll_ge ht l (fun x hx => hl x (by simp [hx])) (rkNode_ge ht (hl m (by simp)) l h)
theorem up_ge (ht : ∀ a m b, R a → R m → R b → d a b ≤ d a m + d m b) {l : List Int} {C : Int → Int → Int} (hC : ∀ x y, R x → R y → d x y ≤ C x y) (hl : ∀ x ∈ l, R x) {s : Int} (hs : R s) (h0 : d s s ≤ 0) {y c : Int} (w : UpP l C s y c) : R y ∧ d s y ≤ c := by
  induction w with
  | nil => exact ⟨hs, h0⟩
  | snoc w h ih =>
    rename_i y z c
    have hz := hl z h.mem.2
    have h1 := ht s y z hs ih.1 hz
    have h2 := hC y z ih.1 hz
    exact ⟨hz, by omega⟩
theorem dn_ge (ht : ∀ a m b, R a → R m → R b → d a b ≤ d a m + d m b) {l : List Int} {C : Int → Int → Int} (hC : ∀ x y, R x → R y → d x y ≤ C x y) (hl : ∀ x ∈ l, R x) {m : Int} (hm : R m) (h0 : d m m ≤ 0) {y c : Int} (w : DnP l C m y c) : R y ∧ d m y ≤ c := by
  induction w with
  | nil => exact ⟨hm, h0⟩
  | snoc w h ih =>
    rename_i y z c
    have hz := hl z h.mem.1
    have h1 := ht m y z hm ih.1 hz
    have h2 := hC y z ih.1 hz
    exact ⟨hz, by omega⟩
end
end Go.Proofs.Ytdlaaccnaokdnaa.M
