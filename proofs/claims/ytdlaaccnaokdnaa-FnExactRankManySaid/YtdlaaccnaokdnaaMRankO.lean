/- What is noted of a hierarchy's entries: over which node they go. -/
import Derived.Test.YtdlaaccnaokdnaaMRankU
set_option linter.unusedVariables false
namespace Go.Proofs.Ytdlaaccnaokdnaa.M
open Go.RowKit Go.Proofs.Ytdlaaccnaokdnaa.P Go.Proofs.YtdlaaccnaokdnaaV.PrintWords Go.Proofs.YtdlaaccnaokdnaaV.PrintMore
/-- in m's turn: an entry is as it was, or goes over m -/
def Via (m : Int) (later : List Int) (s t : Tabs) : Prop := ∀ a b : Int, (t.1 a b = s.1 a b ∧ t.2 a b = s.2 a b) ∨ (a ≠ b ∧ a ∈ later ∧ b ∈ later ∧ t.2 a b = m ∧ t.1 a b = s.1 a m + s.1 m b)
theorem Via.fix {m : Int} {later : List Int} (hm : m ∉ later) {s t : Tabs} (h : Via m later s t) (x : Int) : t.1 x m = s.1 x m ∧ t.1 m x = s.1 m x := by
  constructor
  · rcases h x m with h1 | h1
    · exact h1.1
    · exact absurd h1.2.2.1 hm
  · rcases h m x with h1 | h1
    · exact h1.1
    · exact absurd h1.2.1 hm
theorem rkAB_via {m : Int} {later : List Int} (hm : m ∉ later) {s t : Tabs} (h : Via m later s t) {a b : Int} (ha : a ∈ later) (hb : b ∈ later) : Via m later s (rkAB m t a b) := by
  unfold rkAB
  by_cases hc : a ≠ b ∧ t.1 a m < 99999 ∧ t.1 m b < 99999 ∧ t.1 a m + t.1 m b < t.1 a b
  · rw [if_pos hc]
    intro x y
    show (upd t.1 a b (t.1 a m + t.1 m b) x y = s.1 x y ∧ upd t.2 a b m x y = s.2 x y) ∨ (x ≠ y ∧ x ∈ later ∧ y ∈ later ∧ upd t.2 a b m x y = m ∧ upd t.1 a b (t.1 a m + t.1 m b) x y = s.1 x m + s.1 m y)
    unfold upd
    by_cases e : x = a ∧ y = b
    · rw [if_pos e, if_pos e]
      refine .inr ⟨by rw [e.1, e.2]; exact hc.1, e.1 ▸ ha, e.2 ▸ hb, rfl, ?_⟩
      rw [(h.fix hm a).1, (h.fix hm b).2, e.1, e.2]
    · rw [if_neg e, if_neg e]; exact h x y
  · rw [if_neg hc]; exact h
theorem rkRow_via {m a : Int} {later : List Int} (hm : m ∉ later) (ha : a ∈ later) {s : Tabs} : ∀ (l : List Int), (∀ b ∈ l, b ∈ later) → ∀ {t : Tabs}, Via m later s t → Via m later s (l.foldl (fun s b => rkAB m s a b) t)
  | [], _, t, h => h
  | b :: l, hl, t, h => rkRow_via hm ha l (fun x hx => hl x (by simp [hx])) (rkAB_via hm h ha (hl b (by simp)))
theorem rkNode_via {m : Int} {later : List Int} (hm : m ∉ later) {s : Tabs} : ∀ (l : List Int), (∀ b ∈ l, b ∈ later) → ∀ {t : Tabs}, Via m later s t → Via m later s (l.foldl (rkRow m later) t)
  | [], _, t, h => h
  | a :: l, hl, t, h => rkNode_via hm l (fun x hx => hl x (by simp [hx])) (rkRow_via hm (hl a (by simp)) later (fun _ x => x) h)
theorem Bf.cons {l : List Int} {m a : Int} (x : Int) (h : Bf l m a) : Bf (x :: l) m a := by
  obtain ⟨p, q, e, ha⟩ := h
  exact ⟨x :: p, q, by rw [e]; rfl, ha⟩
/-- in the end: an entry is as at first, or goes over a node that is taken ahead of both its ends, and costs as much as by way of it -/
theorem rkAll_over : ∀ (l : List Int), l.Nodup → ∀ (s : Tabs) (a b : Int), ((rkAll l s).1 a b = s.1 a b ∧ (rkAll l s).2 a b = s.2 a b) ∨ (a ≠ b ∧ Bf l ((rkAll l s).2 a b) a ∧ Bf l ((rkAll l s).2 a b) b ∧ (rkAll l s).1 a b = (rkAll l s).1 a ((rkAll l s).2 a b) + (rkAll l s).1 ((rkAll l s).2 a b) b)
  | [], _, s, a, b => .inl ⟨rfl, rfl⟩
  | m :: l, hn, s, a, b => by
    have hn2 := List.nodup_cons.1 hn
    have hv : Via m l s (rkNode m l s) := rkNode_via hn2.1 l (fun _ x => x) (fun _ _ => .inl ⟨rfl, rfl⟩)
    have hd := rkAll_dn l (rkNode m l s)
    show ((rkAll l (rkNode m l s)).1 a b = s.1 a b ∧ (rkAll l (rkNode m l s)).2 a b = s.2 a b) ∨ _
    rcases rkAll_over l hn2.2 (rkNode m l s) a b with ⟨e1, e2⟩ | ⟨h1, h2, h3, h4⟩
    · rcases hv a b with ⟨f1, f2⟩ | ⟨g1, g2, g3, g4, g5⟩
      · exact .inl ⟨e1.trans f1, e2.trans f2⟩
      · refine .inr ⟨g1, ?_, ?_, ?_⟩
        · show Bf (m :: l) ((rkAll l (rkNode m l s)).2 a b) a
          rw [e2, g4]
          exact ⟨[], l, rfl, g2⟩
        · show Bf (m :: l) ((rkAll l (rkNode m l s)).2 a b) b
          rw [e2, g4]
          exact ⟨[], l, rfl, g3⟩
        · show (rkAll l (rkNode m l s)).1 a b = (rkAll l (rkNode m l s)).1 a ((rkAll l (rkNode m l s)).2 a b) + (rkAll l (rkNode m l s)).1 ((rkAll l (rkNode m l s)).2 a b) b
          rw [e2, g4, e1, g5, (hd.out a m (fun z => hn2.1 z.2)).1, (hd.out m b (fun z => hn2.1 z.1)).1, (hv.fix hn2.1 a).1, (hv.fix hn2.1 b).2]
    · exact .inr ⟨h1, h2.cons m, h3.cons m, h4⟩
end Go.Proofs.Ytdlaaccnaokdnaa.M
