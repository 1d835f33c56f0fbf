/- A hierarchy as a fold over the order: what each node's turn does to the tables. -/
import Derived.Test.YtdlaaccnaokdnaaMGrid
set_option linter.unusedVariables false
namespace Go.Proofs.Ytdlaaccnaokdnaa.M
open Go.RowKit Go.Proofs.Ytdlaaccnaokdnaa.P Go.Proofs.YtdlaaccnaokdnaaV.PrintWords Go.Proofs.YtdlaaccnaokdnaaV.PrintMore
abbrev Tabs := (Int → Int → Int) × (Int → Int → Int)
def rkAB (m : Int) (s : Tabs) (a b : Int) : Tabs := if a ≠ b ∧ s.1 a m < 99999 ∧ s.1 m b < 99999 ∧ s.1 a m + s.1 m b < s.1 a b then (upd s.1 a b (s.1 a m + s.1 m b), upd s.2 a b m) else s
def rkRow (m : Int) (later : List Int) (s : Tabs) (a : Int) : Tabs := later.foldl (fun s b => rkAB m s a b) s
def rkNode (m : Int) (later : List Int) (s : Tabs) : Tabs := later.foldl (rkRow m later) s
def rkAll : List Int → Tabs → Tabs
  | [], s => s
  | m :: later, s => rkAll later (rkNode m later s)
/-- no entry grows; those outside stay -/
structure Dn (P : Int → Int → Prop) (s t : Tabs) : Prop where
  le : ∀ a b : Int, t.1 a b ≤ s.1 a b
  out : ∀ a b : Int, ¬ P a b → t.1 a b = s.1 a b ∧ t.2 a b = s.2 a b
theorem Dn.refl {P : Int → Int → Prop} (s : Tabs) : Dn P s s := ⟨fun _ _ => Int.le_refl _, fun _ _ _ => ⟨rfl, rfl⟩⟩
theorem Dn.trans {P : Int → Int → Prop} {s t u : Tabs} (h : Dn P s t) (h2 : Dn P t u) : Dn P s u := ⟨fun a b => Int.le_trans (h2.le a b) (h.le a b), fun a b hp => ⟨(h2.out a b hp).1.trans (h.out a b hp).1, (h2.out a b hp).2.trans (h.out a b hp).2⟩⟩
theorem Dn.mono {P Q : Int → Int → Prop} {s t : Tabs} (h : Dn P s t) (hq : ∀ a b, P a b → Q a b) : Dn Q s t := ⟨h.le, fun a b hn => h.out a b fun hp => hn (hq a b hp)⟩
theorem rkAB_dn (m : Int) (s : Tabs) (a b : Int) : Dn (fun x y => x = a ∧ y = b) s (rkAB m s a b) := by
  unfold rkAB
  by_cases h : a ≠ b ∧ s.1 a m < 99999 ∧ s.1 m b < 99999 ∧ s.1 a m + s.1 m b < s.1 a b
  · rw [if_pos h]
    refine ⟨fun x y => ?_, fun x y hn => ?_⟩
    · show upd s.1 a b (s.1 a m + s.1 m b) x y ≤ s.1 x y
      unfold upd
      by_cases e : x = a ∧ y = b
      · rw [if_pos e, e.1, e.2]; omega
      · rw [if_neg e]; exact Int.le_refl _
    · show upd s.1 a b (s.1 a m + s.1 m b) x y = s.1 x y ∧ upd s.2 a b m x y = s.2 x y
      unfold upd
      rw [if_neg hn, if_neg hn]
      exact ⟨rfl, rfl⟩
  · rw [if_neg h]; exact Dn.refl s
theorem rkRow_dn (m a : Int) (later : List Int) : ∀ (l : List Int), (∀ b ∈ l, b ∈ later) → ∀ s, Dn (fun x y => x = a ∧ y ∈ later) s (l.foldl (fun s b => rkAB m s a b) s)
  | [], _, s => Dn.refl s
  | b :: l, hl, s => ((rkAB_dn m s a b).mono fun x y h => ⟨h.1, h.2 ▸ hl b (by simp)⟩).trans (rkRow_dn m a later l (fun c hc => hl c (by simp [hc])) _)
theorem rkNode_dn (m : Int) (later : List Int) : ∀ (l : List Int), (∀ b ∈ l, b ∈ later) → ∀ s, Dn (fun x y => x ∈ later ∧ y ∈ later) s (l.foldl (rkRow m later) s)
  | [], _, s => Dn.refl s
  | a :: l, hl, s => ((rkRow_dn m a later later (fun _ h => h) s).mono fun x y h => ⟨h.1 ▸ hl a (by simp), h.2⟩).trans (rkNode_dn m later l (fun c hc => hl c (by simp [hc])) _)
theorem rkAll_dn : ∀ (l : List Int) (s : Tabs), Dn (fun x y => x ∈ l ∧ y ∈ l) s (rkAll l s)
  | [], s => Dn.refl s
  | m :: l, s => ((rkNode_dn m l l (fun _ h => h) s).mono fun x y h => ⟨by simp [h.1], by simp [h.2]⟩).trans ((rkAll_dn l _).mono fun x y h => ⟨by simp [h.1], by simp [h.2]⟩)
/-- no entry below nothing, none above far -/
def Box (s : Tabs) : Prop := ∀ a b : Int, 0 ≤ s.1 a b ∧ s.1 a b ≤ 99999
theorem rkAB_box {m : Int} {s : Tabs} (h : Box s) (a b : Int) : Box (rkAB m s a b) := by
  unfold rkAB
  by_cases hc : a ≠ b ∧ s.1 a m < 99999 ∧ s.1 m b < 99999 ∧ s.1 a m + s.1 m b < s.1 a b
  · rw [if_pos hc]
    intro x y
    show 0 ≤ upd s.1 a b (s.1 a m + s.1 m b) x y ∧ upd s.1 a b (s.1 a m + s.1 m b) x y ≤ 99999
    unfold upd
    have := h a b
    have := h a m
    have := h m b
    by_cases e : x = a ∧ y = b
    · rw [if_pos e]; omega
    · rw [if_neg e]; exact h x y
  · rw [if_neg hc]; exact h
theorem rkRow_box {m a : Int} : ∀ (l : List Int) {s : Tabs}, Box s → Box (l.foldl (fun s b => rkAB m s a b) s)
  | [], s, h => h
  | b :: l, s, h => rkRow_box l (rkAB_box h a b)
theorem rkNode_box {m : Int} {later : List Int} : ∀ (l : List Int) {s : Tabs}, Box s → Box (l.foldl (rkRow m later) s)
  | [], s, h => h
  | a :: l, s, h => rkNode_box l (rkRow_box later h)
theorem rkAll_box : ∀ (l : List Int) {s : Tabs}, Box s → Box (rkAll l s)
  | [], s, h => h
  | m :: l, s, h => rkAll_box l (rkNode_box l h)
/-- a pair's turn -/
theorem rkAB_le {m : Int} {s : Tabs} (h : Box s) {a b : Int} (hab : a ≠ b) : (rkAB m s a b).1 a b ≤ s.1 a m + s.1 m b := by
  unfold rkAB
  have h1 := h a b
  have h2 := h a m
  have h3 := h m b
  by_cases hc : a ≠ b ∧ s.1 a m < 99999 ∧ s.1 m b < 99999 ∧ s.1 a m + s.1 m b < s.1 a b
  · rw [if_pos hc]
    show upd s.1 a b (s.1 a m + s.1 m b) a b ≤ _
    unfold upd
    rw [if_pos ⟨rfl, rfl⟩]; exact Int.le_refl _
  · rw [if_neg hc]
    by_cases h4 : s.1 a m < 99999
    · by_cases h5 : s.1 m b < 99999
      · have : ¬ (s.1 a m + s.1 m b < s.1 a b) := fun h6 => hc ⟨hab, h4, h5, h6⟩
        omega
      · omega
    · omega
theorem rkRow_le {m a : Int} {later : List Int} (hm : m ∉ later) (ham : a ≠ m) : ∀ (l : List Int), (∀ b ∈ l, b ∈ later) → ∀ {s : Tabs}, Box s → ∀ b ∈ l, a ≠ b → (l.foldl (fun s b => rkAB m s a b) s).1 a b ≤ s.1 a m + s.1 m b
  | [], _, s, h, b, hb, _ => by cases hb
  | c :: l, hl, s, h, b, hb, hab => by
    have hd := rkRow_dn m a later l (fun x hx => hl x (by simp [hx])) (rkAB m s a c)
    have e1 := ((rkAB_dn m s a c).out a m (fun e => hm (e.2 ▸ hl c (by simp)))).1
    have e2 := ((rkAB_dn m s a c).out m b (fun e => ham e.1.symm)).1
    rcases List.mem_cons.1 hb with rfl | hb
    · exact Int.le_trans (hd.le a b) (rkAB_le h hab)
    · have := rkRow_le hm ham l (fun x hx => hl x (by simp [hx])) (rkAB_box (m := m) h a c) b hb hab
      rw [e1, e2] at this
      exact this
theorem rkNode_le {m : Int} {later : List Int} (hm : m ∉ later) : ∀ (l : List Int), (∀ b ∈ l, b ∈ later) → ∀ {s : Tabs}, Box s → ∀ a ∈ l, ∀ b ∈ later, a ≠ b → (l.foldl (rkRow m later) s).1 a b ≤ s.1 a m + s.1 m b
  | [], _, s, h, a, ha, b, hb, _ => by cases ha
  | c :: l, hl, s, h, a, ha, b, hb, hab => by
    have hcm : c ≠ m := fun e => hm (e ▸ hl c (by simp))
    have ham : a ≠ m := by
      intro e
      exact hm (e ▸ hl a ha)
    have hd := rkNode_dn m later l (fun x hx => hl x (by simp [hx])) (rkRow m later s c)
    have hr : Dn (fun x y => x = c ∧ y ∈ later) s (rkRow m later s c) := rkRow_dn m c later later (fun _ x => x) s
    have e1 := (hr.out a m (fun e => hm e.2)).1
    have e2 := (hr.out m b (fun e => hcm e.1.symm)).1
    rcases List.mem_cons.1 ha with rfl | ha
    · exact Int.le_trans (hd.le a b) (rkRow_le hm ham later (fun _ x => x) h b hb hab)
    · have := rkNode_le hm l (fun x hx => hl x (by simp [hx])) (rkRow_box (m := m) (a := c) later h) a ha b hb hab
      change _ ≤ (rkRow m later s c).1 a m + (rkRow m later s c).1 m b at this
      rw [e1, e2] at this
      exact this
/-- in the end: over a node, each two later ones have no more than by way of it -/
theorem rkAll_tri : ∀ (l : List Int), l.Nodup → ∀ {s : Tabs}, Box s → ∀ (pre later : List Int) (m : Int), l = pre ++ m :: later → ∀ a ∈ later, ∀ b ∈ later, a ≠ b → (rkAll l s).1 a b ≤ (rkAll l s).1 a m + (rkAll l s).1 m b
  | [], _, s, _, pre, later, m, e, a, ha, b, hb, hab => by simp at e
  | x :: l, hn, s, h, pre, later, m, e, a, ha, b, hb, hab => by
    have hn2 := List.nodup_cons.1 hn
    cases pre with
    | nil =>
      obtain ⟨rfl, rfl⟩ := List.cons.inj e
      have hd := rkAll_dn l (rkNode x l s)
      have h1 := rkNode_le hn2.1 l (fun _ y => y) h a ha b hb hab
      have hno := rkNode_dn x l l (fun _ y => y) s
      have e1 := (hd.out a x (fun z => hn2.1 z.2)).1
      have e2 := (hd.out x b (fun z => hn2.1 z.1)).1
      have e3 := (hno.out a x (fun z => hn2.1 z.2)).1
      have e4 := (hno.out x b (fun z => hn2.1 z.1)).1
      show (rkAll l (rkNode x l s)).1 a b ≤ (rkAll l (rkNode x l s)).1 a x + (rkAll l (rkNode x l s)).1 x b
      rw [e1, e2]
      have e3' : (rkNode x l s).1 a x = s.1 a x := e3
      have e4' : (rkNode x l s).1 x b = s.1 x b := e4
      rw [e3', e4']
      exact Int.le_trans (hd.le a b) h1
    | cons p pre =>
      have e2 : l = pre ++ m :: later := (List.cons.inj e).2
      exact rkAll_tri l hn2.2 (rkNode_box l h) pre later m e2 a ha b hb hab
end Go.Proofs.Ytdlaaccnaokdnaa.M
