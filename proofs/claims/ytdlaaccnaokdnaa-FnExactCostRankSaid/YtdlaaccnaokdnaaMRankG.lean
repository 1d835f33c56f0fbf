/- Loops by rounds: what they come to with rounds enough. Plain law; and the helpers of the laws' own text (eq.., mark.., held.., to..); Square tables told by a function of two numbers; the empty grids of both sides; A hierarchy as a fold over the order: what each node's turn does to the tables; The hierarchy of a net by an order, step by step; what both sides make; impl's empty grid at any number; what is asked of a net and an order. -/
import Derived.Test.YtdlaaccnaokdnaaPx0
import Derived.Test.YtdlaaccnaokdnaaHNet
import Derived.Test.YtdlaaccnaokdnaaGGrid
import Derived.Test.YtdlaaccnaokdnaaHRepeat
import Derived.Test.YtdlaaccnaokdnaaPFSpecL8Grid
set_option linter.unusedVariables false
namespace Go.Proofs.Ytdlaaccnaokdnaa.M
open Go.RowKit Go.Proofs.Ytdlaaccnaokdnaa.P Go.Proofs.YtdlaaccnaokdnaaV.PrintWords Go.Proofs.YtdlaaccnaokdnaaV.PrintMore

/-- with rounds enough F comes to r -/
def Ev {α : Type} (F : Nat → Option α) (r : α) : Prop := ∃ k, ∀ m, k ≤ m → F m = some r
section
variable {α β : Type} {F G : Nat → Option α} {r : α}
theorem Ev.of (h : ∀ m, F m = some r) : Ev F r := ⟨0, fun m _ => h m⟩
theorem Ev.ret (r : α) : Ev (fun _ => some r) r := ⟨0, fun _ _ => rfl⟩
theorem Ev.step (h : ∀ k, F (k + 1) = G k) (hg : Ev G r) : Ev F r := by
  obtain ⟨k, hk⟩ := hg
  refine ⟨k + 1, fun m hm => ?_⟩
  obtain ⟨m, rfl⟩ : ∃ j, m = j + 1 := ⟨m - 1, by omega⟩
  rw [h]
  exact hk m (by omega)
theorem Ev.congr (h : ∀ k, F k = G k) (hg : Ev G r) : Ev F r := by
  have : F = G := funext h
  rw [this]
  exact hg
theorem Ev.bind {A : Nat → Option β} {h : Nat → β → Option α} {a : β} (hg : Ev A a) (hh : Ev (fun k => h k a) r) : Ev (fun k => (A k).bind (h k)) r := by
  obtain ⟨k1, h1⟩ := hg
  obtain ⟨k2, h2⟩ := hh
  refine ⟨k1 + k2, fun m hm => ?_⟩
  show (A m).bind (h m) = some r
  rw [h1 m (by omega)]
  exact h2 m (by omega)
theorem Ev.pos {c : Prop} [Decidable c] (hc : c) (hF : Ev F r) : Ev (fun k => if c then F k else G k) r := Ev.congr (fun k => if_pos hc) hF
theorem Ev.neg {c : Prop} [Decidable c] (hc : ¬ c) (hF : Ev G r) : Ev (fun k => if c then F k else G k) r := Ev.congr (fun k => if_neg hc) hF
theorem Ev.get (h : Ev F r) : ∃ k, F k = some r := by
  obtain ⟨k, hk⟩ := h
  exact ⟨k, hk k (Nat.le_refl _)⟩
theorem Ev.eq (h : Ev F r) {r' : α} (e : r = r') : Ev F r' := e ▸ h
end
/-- from the end down to the start -/
theorem downto {P : Nat → Prop} {n : Nat} (hend : P n) (hstep : ∀ i, i < n → P (i + 1) → P i) : P 0 := by
  have : ∀ j, j ≤ n → P (n - j) := by
    intro j
    induction j with
    | zero => exact fun _ => hend
    | succ j ih =>
      intro hj
      refine hstep _ (by omega) ?_
      rw [show n - (j + 1) + 1 = n - j from by omega]
      exact ih (by omega)
  have h := this n (Nat.le_refl _)
  rwa [Nat.sub_self] at h
theorem w64 {n : Int} (h : -9223372036854775808 ≤ n ∧ n ≤ 9223372036854775807) : wrap64 n = n := by unfold wrap64; omega
theorem w64s {n : Nat} (h : n < 9223372036854775807) : wrap64 ((n : Int) + 1) = ((n + 1 : Nat) : Int) := by unfold wrap64; omega
theorem wf_i64 {n : Int} (h : (Lit.int .i64 n).wf = true) : -9223372036854775808 ≤ n ∧ n ≤ 9223372036854775807 := by
  unfold Lit.wf at h
  simp [IntKind.min, IntKind.max, IntKind.signed, IntKind.bits] at h
  exact h
theorem rd_at0 (l : List Int) (j : Nat) (hj : j < l.length) : rd l (j : Int) = l[j] := rd_at l j hj
theorem rd120_at (l : List S103) (j : Nat) (hj : j < l.length) : rd_T103 l (j : Int) = l[j] := by
  simp [rd_T103, List.getD, hj]
end Go.Proofs.Ytdlaaccnaokdnaa.M
set_option linter.unusedVariables false
namespace Go.Proofs.Ytdlaaccnaokdnaa.M
open Go.RowKit Go.Proofs.Ytdlaaccnaokdnaa.P Go.Proofs.YtdlaaccnaokdnaaV.PrintWords Go.Proofs.YtdlaaccnaokdnaaV.PrintMore
def rowF (n : Nat) (f : Int → Int) : List Int := (List.range n).map fun (j : Nat) => f (j : Int)
def mat (n : Nat) (F : Int → Int → Int) : List (List Int) := (List.range n).map fun (i : Nat) => rowF n (F (i : Int))
theorem rowF_len (n : Nat) (f : Int → Int) : (rowF n f).length = n := by simp [rowF]
theorem mat_len (n : Nat) (F : Int → Int → Int) : (mat n F).length = n := by simp [mat]
theorem rd_rowF {n : Nat} (f : Int → Int) {b : Int} (h0 : 0 ≤ b) (h1 : b < n) : rd (rowF n f) b = f b := by
  obtain ⟨j, rfl⟩ := Int.eq_ofNat_of_zero_le h0
  have hj : j < (rowF n f).length := by rw [rowF_len]; omega
  rw [rd_at0 _ j hj]
  simp [rowF]
theorem rd_mat {n : Nat} (F : Int → Int → Int) {a : Int} (h0 : 0 ≤ a) (h1 : a < n) : rd_L5 (mat n F) a = rowF n (F a) := by
  obtain ⟨j, rfl⟩ := Int.eq_ofNat_of_zero_le h0
  have hj : j < n := by omega
  simp [mat, rd_L5, List.getD, hj]
theorem rd_mat2 {n : Nat} (F : Int → Int → Int) {a b : Int} (a0 : 0 ≤ a) (a1 : a < n) (b0 : 0 ≤ b) (b1 : b < n) : rd (rd_L5 (mat n F) a) b = F a b := by
  rw [rd_mat F a0 a1, rd_rowF _ b0 b1]
theorem mat_row_len {n : Nat} (F : Int → Int → Int) {a : Int} (a0 : 0 ≤ a) (a1 : a < n) : (rd_L5 (mat n F) a).length = n := by
  rw [rd_mat F a0 a1, rowF_len]
def upd1 (f : Int → Int) (b x : Int) : Int → Int := fun j => if j = b then x else f j
def upd (F : Int → Int → Int) (a b x : Int) : Int → Int → Int := fun i j => if i = a ∧ j = b then x else F i j
theorem rowF_congr {n : Nat} {f g : Int → Int} (h : ∀ j : Int, 0 ≤ j → j < n → f j = g j) : rowF n f = rowF n g := by
  unfold rowF
  refine List.map_congr_left fun j hj => ?_
  have := List.mem_range.1 hj
  exact h j (by omega) (by omega)
theorem mat_congr {n : Nat} {F G : Int → Int → Int} (h : ∀ i j : Int, 0 ≤ i → i < n → 0 ≤ j → j < n → F i j = G i j) : mat n F = mat n G := by
  unfold mat
  refine List.map_congr_left fun i hi => ?_
  have := List.mem_range.1 hi
  exact rowF_congr fun j j0 j1 => h i j (by omega) (by omega) j0 j1
theorem rowF_put {n : Nat} (f : Int → Int) {b : Int} (b0 : 0 ≤ b) (x : Int) : (rowF n f).set b.toNat x = rowF n (upd1 f b x) := by
  refine List.ext_getElem (by simp [rowF]) fun j h1 h2 => ?_
  simp only [rowF, upd1, List.getElem_set, List.getElem_map, List.getElem_range]
  by_cases h : b.toNat = j
  · rw [if_pos h, if_pos (by omega)]
  · rw [if_neg h, if_neg (by omega)]
theorem mat_put {n : Nat} (F : Int → Int → Int) {a b : Int} (a0 : 0 ≤ a) (a1 : a < n) (b0 : 0 ≤ b) (x : Int) : (mat n F).set a.toNat ((rd_L5 (mat n F) a).set b.toNat x) = mat n (upd F a b x) := by
  rw [rd_mat F a0 a1, rowF_put _ b0]
  refine List.ext_getElem (by simp [mat]) fun i h1 h2 => ?_
  simp only [mat, List.getElem_set, List.getElem_map, List.getElem_range]
  by_cases h : a.toNat = i
  · rw [if_pos h]
    refine rowF_congr fun j j0 j1 => ?_
    have e : (i : Int) = a := by omega
    simp only [upd1, upd, e, true_and]
  · rw [if_neg h]
    refine rowF_congr fun j j0 j1 => ?_
    have e : ¬ (i : Int) = a := by omega
    simp only [upd, e, false_and, if_false]
theorem rowF_const (n : Nat) (x : Int) : rowF n (fun _ => x) = List.replicate n x := by
  simp [rowF, List.map_const']
def far2 : Int → Int → Int := fun _ _ => 99999
theorem mat_const (n : Nat) : mat n far2 = List.replicate n (List.replicate n 99999) := by
  have : ∀ m : Nat, ((List.range m).map fun (i : Nat) => rowF n (far2 (i : Int))) = List.replicate m (List.replicate n 99999) := by
    intro m
    have e : (fun (i : Nat) => rowF n (far2 (i : Int))) = fun _ => List.replicate n 99999 := funext fun i => rowF_const n 99999
    rw [e, List.map_const', List.length_range]
  exact this n
theorem impl_grid_ev {n : Int} (h0 : 0 ≤ n) (h8 : n ≤ 8) : Ev (fun k => impl_grid.f k n 99999) (mat n.toNat far2) := by
  rw [mat_const]
  refine Ev.congr (G := fun k => impl_grid.l0 k n 99999 [] n 0) (fun k => by unfold impl_grid.f; rw [if_pos h0, if_pos (by omega)]) ?_
  refine downto (P := fun i => Ev (fun k => impl_grid.l0 k n 99999 (List.replicate i (List.replicate n.toNat 99999)) n (i : Int)) (List.replicate n.toNat (List.replicate n.toNat 99999))) (n := n.toNat) ?_ ?_
  · exact Ev.step (fun k => by simp only [impl_grid.l0]; rw [if_neg (by omega)]) (Ev.ret _)
  · intro i hi h
    refine Ev.step (fun k => ?_) h
    simp only [impl_grid.l0]
    rw [if_pos (by omega)]
    unfold slices_Repeat_int.f slices_Clip_int_int.f
    rw [if_pos ⟨rfl, h0, h8⟩, Option.bind_some, Option.bind_some, if_pos (by rw [List.length_replicate]; omega), w64s (by omega), List.replicate_succ']
    rfl
theorem spec_grid_ev {n : Int} (h0 : 0 ≤ n) (h8 : n ≤ 8) : Ev (fun k => spec_l8Grid.f k n []) (mat n.toNat far2) := by
  rw [mat_const]
  show Ev (fun k => spec_l8Grid.l0 k [] 0 n []) _
  refine downto (P := fun i => Ev (fun k => spec_l8Grid.l0 k (List.replicate i (List.replicate n.toNat 99999)) (i : Int) n []) (List.replicate n.toNat (List.replicate n.toNat 99999))) (n := n.toNat) ?_ ?_
  · refine Ev.step (fun k => by simp only [spec_l8Grid.l0]; rw [if_neg (by omega)]) ?_
    exact Ev.step (fun k => by simp only [spec_l8Grid.l2]; rw [if_neg (by simp)]) (Ev.ret _)
  · intro i hi h
    refine Ev.step (fun k => by simp only [spec_l8Grid.l0]; rw [if_pos (by omega), if_pos h0, if_pos (by omega)]) ?_
    have key : ∀ j : Nat, j ≤ n.toNat → (List.replicate j (99999 : Int) ++ List.replicate (n.toNat - j) 0).length = n.toNat := fun j hj => by simp; omega
    refine downto (P := fun j => Ev (fun k => spec_l8Grid.l1 k (List.replicate i (List.replicate n.toNat 99999)) (i : Int) (List.replicate j (99999 : Int) ++ List.replicate (n.toNat - j) 0) (j : Int) n []) (List.replicate n.toNat (List.replicate n.toNat 99999))) (n := n.toNat) ?_ ?_
    · refine Ev.step (fun k => ?_) h
      simp only [spec_l8Grid.l1]
      rw [if_neg (by omega), if_pos (by rw [List.length_replicate]; omega), w64s (by omega), Nat.sub_self, List.replicate_zero, List.append_nil, List.replicate_succ' (n := i)]
    · intro j hj h2
      refine Ev.step (fun k => ?_) h2
      simp only [spec_l8Grid.l1]
      rw [if_pos (by omega), if_pos (by omega), if_pos (by rw [key j (by omega)]; omega), w64s (by omega)]
      congr 1
      rw [show n.toNat - j = (n.toNat - (j + 1)) + 1 from by omega, List.replicate_succ, Int.toNat_natCast, List.set_append]
      simp [List.replicate_succ']
end Go.Proofs.Ytdlaaccnaokdnaa.M
set_option linter.unusedVariables false
namespace Go.Proofs.Ytdlaaccnaokdnaa.M
open Go.RowKit Go.Proofs.Ytdlaaccnaokdnaa.P Go.Proofs.YtdlaaccnaokdnaaV.PrintWords Go.Proofs.YtdlaaccnaokdnaaV.PrintMore
abbrev Tabs := (Int → Int → Int) × (Int → Int → Int)
def rkAB (m : Int) (s : Tabs) (a b : Int) : Tabs := if a ≠ b ∧ s.1 a m < 99999 ∧ s.1 m b < 99999 ∧ s.1 a m + s.1 m b < s.1 a b then (upd s.1 a b (s.1 a m + s.1 m b), upd s.2 a b m) else s
def rkRow (m : Int) (later : List Int) (s : Tabs) (a : Int) : Tabs := later.foldl (fun s b => rkAB m s a b) s
def rkNode (m : Int) (later : List Int) (s : Tabs) : Tabs := later.foldl (rkRow m later) s
def rkAll : List Int → Tabs → Tabs
  | [], s => s
  | m :: later, s => rkAll later (rkNode m later s)
/-- no entry grows; those outside stay -/
structure Dn (P : Int → Int → Prop) (s t : Tabs) : Prop where
  le : ∀ a b : Int, t.1 a b ≤ s.1 a b
  out : ∀ a b : Int, ¬ P a b → t.1 a b = s.1 a b ∧ t.2 a b = s.2 a b
theorem Dn.refl {P : Int → Int → Prop} (s : Tabs) : Dn P s s := ⟨fun _ _ => Int.le_refl _, fun _ _ _ => ⟨rfl, rfl⟩⟩
theorem Dn.trans {P : Int → Int → Prop} {s t u : Tabs} (h : Dn P s t) (h2 : Dn P t u) : Dn P s u := ⟨fun a b => Int.le_trans (h2.le a b) (h.le a b), fun a b hp => ⟨(h2.out a b hp).1.trans (h.out a b hp).1, (h2.out a b hp).2.trans (h.out a b hp).2⟩⟩
theorem Dn.mono {P Q : Int → Int → Prop} {s t : Tabs} (h : Dn P s t) (hq : ∀ a b, P a b → Q a b) : Dn Q s t := ⟨h.le, fun a b hn => h.out a b fun hp => hn (hq a b hp)⟩
theorem rkAB_dn (m : Int) (s : Tabs) (a b : Int) : Dn (fun x y => x = a ∧ y = b) s (rkAB m s a b) := by
  unfold rkAB
  by_cases h : a ≠ b ∧ s.1 a m < 99999 ∧ s.1 m b < 99999 ∧ s.1 a m + s.1 m b < s.1 a b
  · rw [if_pos h]
    refine ⟨fun x y => ?_, fun x y hn => ?_⟩
    · show upd s.1 a b (s.1 a m + s.1 m b) x y ≤ s.1 x y
      unfold upd
      by_cases e : x = a ∧ y = b
      · rw [if_pos e, e.1, e.2]; omega
      · rw [if_neg e]; exact Int.le_refl _
    · show upd s.1 a b (s.1 a m + s.1 m b) x y = s.1 x y ∧ upd s.2 a b m x y = s.2 x y
      unfold upd
      rw [if_neg hn, if_neg hn]
      exact ⟨rfl, rfl⟩
  · rw [if_neg h]; exact Dn.refl s
theorem rkRow_dn (m a : Int) (later : List Int) : ∀ (l : List Int), (∀ b ∈ l, b ∈ later) → ∀ s, Dn (fun x y => x = a ∧ y ∈ later) s (l.foldl (fun s b => rkAB m s a b) s)
  | [], _, s => Dn.refl s
  | b :: l, hl, s => ((rkAB_dn m s a b).mono fun x y h => ⟨h.1, h.2 ▸ hl b (by simp)⟩).trans (rkRow_dn m a later l (fun c hc => hl c (by simp [hc])) _)
theorem rkNode_dn (m : Int) (later : List Int) : ∀ (l : List Int), (∀ b ∈ l, b ∈ later) → ∀ s, Dn (fun x y => x ∈ later ∧ y ∈ later) s (l.foldl (rkRow m later) s)
  | [], _, s => Dn.refl s
  | a :: l, hl, s => ((rkRow_dn m a later later (fun _ h => h) s).mono fun x y h => ⟨h.1 ▸ hl a (by simp), h.2⟩).trans (rkNode_dn m later l (fun c hc => hl c (by simp [hc])) _)
theorem rkAll_dn : ∀ (l : List Int) (s : Tabs), Dn (fun x y => x ∈ l ∧ y ∈ l) s (rkAll l s)
  | [], s => Dn.refl s
  | m :: l, s => ((rkNode_dn m l l (fun _ h => h) s).mono fun x y h => ⟨by simp [h.1], by simp [h.2]⟩).trans ((rkAll_dn l _).mono fun x y h => ⟨by simp [h.1], by simp [h.2]⟩)
/-- no entry below nothing, none above far -/
def Box (s : Tabs) : Prop := ∀ a b : Int, 0 ≤ s.1 a b ∧ s.1 a b ≤ 99999
theorem rkAB_box {m : Int} {s : Tabs} (h : Box s) (a b : Int) : Box (rkAB m s a b) := by
  unfold rkAB
  by_cases hc : a ≠ b ∧ s.1 a m < 99999 ∧ s.1 m b < 99999 ∧ s.1 a m + s.1 m b < s.1 a b
  · rw [if_pos hc]
    intro x y
    show 0 ≤ upd s.1 a b (s.1 a m + s.1 m b) x y ∧ upd s.1 a b (s.1 a m + s.1 m b) x y ≤ 99999
    unfold upd
    have := h a b
    have := h a m
    have := h m b
    by_cases e : x = a ∧ y = b
    · rw [if_pos e]; omega
    · rw [if_neg e]; exact h x y
  · rw [if_neg hc]; exact h
theorem rkRow_box {m a : Int} : ∀ (l : List Int) {s : Tabs}, Box s → Box (l.foldl (fun s b => rkAB m s a b) s)
  | [], s, h => h
  | b :: l, s, h => rkRow_box l (rkAB_box h a b)
theorem rkNode_box {m : Int} {later : List Int} : ∀ (l : List Int) {s : Tabs}, Box s → Box (l.foldl (rkRow m later) s)
  | [], s, h => h
  | a :: l, s, h => rkNode_box l (rkRow_box later h)
theorem rkAll_box : ∀ (l : List Int) {s : Tabs}, Box s → Box (rkAll l s)
  | [], s, h => h
  | m :: l, s, h => rkAll_box l (rkNode_box l h)
/-- a pair's turn -/
theorem rkAB_le {m : Int} {s : Tabs} (h : Box s) {a b : Int} (hab : a ≠ b) : (rkAB m s a b).1 a b ≤ s.1 a m + s.1 m b := by
  unfold rkAB
  have h1 := h a b
  have h2 := h a m
  have h3 := h m b
  by_cases hc : a ≠ b ∧ s.1 a m < 99999 ∧ s.1 m b < 99999 ∧ s.1 a m + s.1 m b < s.1 a b
  · rw [if_pos hc]
    show upd s.1 a b (s.1 a m + s.1 m b) a b ≤ _
    unfold upd
    rw [if_pos ⟨rfl, rfl⟩]; exact Int.le_refl _
  · rw [if_neg hc]
    by_cases h4 : s.1 a m < 99999
    · by_cases h5 : s.1 m b < 99999
      · have : ¬ (s.1 a m + s.1 m b < s.1 a b) := fun h6 => hc ⟨hab, h4, h5, h6⟩
        omega
      · omega
    · omega
theorem rkRow_le {m a : Int} {later : List Int} (hm : m ∉ later) (ham : a ≠ m) : ∀ (l : List Int), (∀ b ∈ l, b ∈ later) → ∀ {s : Tabs}, Box s → ∀ b ∈ l, a ≠ b → (l.foldl (fun s b => rkAB m s a b) s).1 a b ≤ s.1 a m + s.1 m b
  | [], _, s, h, b, hb, _ => by cases hb
  | c :: l, hl, s, h, b, hb, hab => by
    have hd := rkRow_dn m a later l (fun x hx => hl x (by simp [hx])) (rkAB m s a c)
    have e1 := ((rkAB_dn m s a c).out a m (fun e => hm (e.2 ▸ hl c (by simp)))).1
    have e2 := ((rkAB_dn m s a c).out m b (fun e => ham e.1.symm)).1
    rcases List.mem_cons.1 hb with rfl | hb
    · exact Int.le_trans (hd.le a b) (rkAB_le h hab)
    · have := rkRow_le hm ham l (fun x hx => hl x (by simp [hx])) (rkAB_box (m := m) h a c) b hb hab
      rw [e1, e2] at this
      exact this
theorem rkNode_le {m : Int} {later : List Int} (hm : m ∉ later) : ∀ (l : List Int), (∀ b ∈ l, b ∈ later) → ∀ {s : Tabs}, Box s → ∀ a ∈ l, ∀ b ∈ later, a ≠ b → (l.foldl (rkRow m later) s).1 a b ≤ s.1 a m + s.1 m b
  | [], _, s, h, a, ha, b, hb, _ => by cases ha
  | c :: l, hl, s, h, a, ha, b, hb, hab => by
    have hcm : c ≠ m := fun e => hm (e ▸ hl c (by simp))
    have ham : a ≠ m := by
      intro e
      exact hm (e ▸ hl a ha)
    have hd := rkNode_dn m later l (fun x hx => hl x (by simp [hx])) (rkRow m later s c)
    have hr : Dn (fun x y => x = c ∧ y ∈ later) s (rkRow m later s c) := rkRow_dn m c later later (fun _ x => x) s
    have e1 := (hr.out a m (fun e => hm e.2)).1
    have e2 := (hr.out m b (fun e => hcm e.1.symm)).1
    rcases List.mem_cons.1 ha with rfl | ha
    · exact Int.le_trans (hd.le a b) (rkRow_le hm ham later (fun _ x => x) h b hb hab)
    · have := rkNode_le hm l (fun x hx => hl x (by simp [hx])) (rkRow_box (m := m) (a := c) later h) a ha b hb hab
      change _ ≤ (rkRow m later s c).1 a m + (rkRow m later s c).1 m b at this
      rw [e1, e2] at this
      exact this
/-- in the end: over a node, each two later ones have no more than by way of it -/
theorem rkAll_tri : ∀ (l : List Int), l.Nodup → ∀ {s : Tabs}, Box s → ∀ (pre later : List Int) (m : Int), l = pre ++ m :: later → ∀ a ∈ later, ∀ b ∈ later, a ≠ b → (rkAll l s).1 a b ≤ (rkAll l s).1 a m + (rkAll l s).1 m b
  | [], _, s, _, pre, later, m, e, a, ha, b, hb, hab => by simp at e
  | x :: l, hn, s, h, pre, later, m, e, a, ha, b, hb, hab => by
    have hn2 := List.nodup_cons.1 hn
    cases pre with
    | nil =>
      obtain ⟨rfl, rfl⟩ := List.cons.inj e
      have hd := rkAll_dn l (rkNode x l s)
      have h1 := rkNode_le hn2.1 l (fun _ y => y) h a ha b hb hab
      have hno := rkNode_dn x l l (fun _ y => y) s
      have e1 := (hd.out a x (fun z => hn2.1 z.2)).1
      have e2 := (hd.out x b (fun z => hn2.1 z.1)).1
      have e3 := (hno.out a x (fun z => hn2.1 z.2)).1
      have e4 := (hno.out x b (fun z => hn2.1 z.1)).1
      show (rkAll l (rkNode x l s)).1 a b ≤ (rkAll l (rkNode x l s)).1 a x + (rkAll l (rkNode x l s)).1 x b
      rw [e1, e2]
      have e3' : (rkNode x l s).1 a x = s.1 a x := e3
      have e4' : (rkNode x l s).1 x b = s.1 x b := e4
      rw [e3', e4']
      exact Int.le_trans (hd.le a b) h1
    | cons p pre =>
      have e2 : l = pre ++ m :: later := (List.cons.inj e).2
      exact rkAll_tri l hn2.2 (rkNode_box l h) pre later m e2 a ha b hb hab
end Go.Proofs.Ytdlaaccnaokdnaa.M
set_option linter.unusedVariables false
namespace Go.Proofs.Ytdlaaccnaokdnaa.M
open Go.RowKit Go.Proofs.Ytdlaaccnaokdnaa.P Go.Proofs.YtdlaaccnaokdnaaV.PrintWords Go.Proofs.YtdlaaccnaokdnaaV.PrintMore
/-- numbers from 0 on, each once, so many -/
def Ord (l : List Int) (n : Int) : Prop := (l.length : Int) = n ∧ l.Nodup ∧ ∀ x ∈ l, 0 ≤ x ∧ x < n
instance (l : List Int) (n : Int) : Decidable (Ord l n) := by unfold Ord; infer_instance
/-- the first so many of a list, folded -/
def fN {α : Type} (f : α → Int → α) (l : List Int) (s : α) (j : Nat) : α := (l.take j).foldl f s
theorem fN_succ {α : Type} (f : α → Int → α) (l : List Int) (s : α) {j : Nat} (hj : j < l.length) : fN f l s (j + 1) = f (fN f l s j) (rd l (j : Int)) := by
  unfold fN
  rw [List.take_succ_eq_append_getElem hj, List.foldl_append, rd_at0 l j hj]
  rfl
theorem fN_all {α : Type} (f : α → Int → α) (l : List Int) (s : α) : fN f l s l.length = l.foldl f s := by
  unfold fN; rw [List.take_length]
theorem rd_drop (l : List Int) (i : Nat) (x : Nat) : rd (l.drop i) (x : Int) = rd l ((i + x : Nat) : Int) := by
  unfold rd
  rw [Int.toNat_natCast, Int.toNat_natCast]
  simp [List.getD]
theorem rkAB_no {m : Int} {s : Tabs} {a b : Int} (h : ¬ (a ≠ b ∧ s.1 a m < 99999 ∧ s.1 m b < 99999 ∧ s.1 a m + s.1 m b < s.1 a b)) : rkAB m s a b = s := if_neg h
theorem rkAB_yes {m : Int} {s : Tabs} {a b : Int} (h : a ≠ b ∧ s.1 a m < 99999 ∧ s.1 m b < 99999 ∧ s.1 a m + s.1 m b < s.1 a b) : rkAB m s a b = (upd s.1 a b (s.1 a m + s.1 m b), upd s.2 a b m) := if_pos h
/-- what arcs cost at first -/
def arcG (l : List S61) : Int → Int → Int := l.foldl (fun F x => upd F x.f0 x.f1 (mn (F x.f0 x.f1) x.f2)) far2
theorem arcG_succ (l : List S61) (i : Nat) (hi : i < l.length) : arcG (l.take (i + 1)) = upd (arcG (l.take i)) l[i].f0 l[i].f1 (mn (arcG (l.take i) l[i].f0 l[i].f1) l[i].f2) := by
  unfold arcG
  rw [List.take_succ_eq_append_getElem hi, List.foldl_append]
  rfl
def arcS (l : List S61) : Tabs := (arcG l, fun _ _ => -1)
def ndS (order : List Int) (s : Tabs) : Nat → Tabs
  | 0 => s
  | i + 1 => rkNode (rd order (i : Int)) (order.drop (i + 1)) (ndS order s i)
def rwS (order : List Int) (s : Tabs) (i x : Nat) : Tabs := fN (rkRow (rd order (i : Int)) (order.drop (i + 1))) (order.drop (i + 1)) s x
def abS (order : List Int) (s : Tabs) (i : Nat) (a : Int) (y : Nat) : Tabs := fN (fun s b => rkAB (rd order (i : Int)) s a b) (order.drop (i + 1)) s y
theorem ndS_all (order : List Int) (s : Tabs) : ndS order s order.length = rkAll order s := by
  have : ∀ i, i ≤ order.length → rkAll (order.drop i) (ndS order s i) = rkAll order s := by
    intro i
    induction i with
    | zero => exact fun _ => by rw [List.drop_zero]; rfl
    | succ i ih =>
      intro hi
      have h1 := ih (by omega)
      rw [List.drop_eq_getElem_cons (by omega)] at h1
      rw [← h1]
      show _ = rkAll (order.drop (i + 1)) (rkNode order[i] (order.drop (i + 1)) (ndS order s i))
      rw [← rd_at0 order i (by omega)]
      rfl
  have h2 := this order.length (Nat.le_refl _)
  rw [List.drop_length] at h2
  exact h2
theorem rwS_all (order : List Int) (s : Tabs) (i : Nat) : rwS order s i (order.length - (i + 1)) = rkNode (rd order (i : Int)) (order.drop (i + 1)) s := by
  unfold rwS
  rw [← List.length_drop, fN_all]
  rfl
theorem abS_all (order : List Int) (s : Tabs) (i : Nat) (a : Int) : abS order s i a (order.length - (i + 1)) = rkRow (rd order (i : Int)) (order.drop (i + 1)) s a := by
  unfold abS
  rw [← List.length_drop, fN_all]
  rfl
theorem rwS_succ (order : List Int) (s : Tabs) (i x : Nat) (hx : i + 1 + x < order.length) : rwS order s i (x + 1) = rkRow (rd order (i : Int)) (order.drop (i + 1)) (rwS order s i x) (rd order ((i + 1 + x : Nat) : Int)) := by
  unfold rwS
  rw [fN_succ _ _ _ (by rw [List.length_drop]; omega), rd_drop]
theorem abS_succ (order : List Int) (s : Tabs) (i : Nat) (a : Int) (y : Nat) (hy : i + 1 + y < order.length) : abS order s i a (y + 1) = rkAB (rd order (i : Int)) (abS order s i a y) a (rd order ((i + 1 + y : Nat) : Int)) := by
  unfold abS
  rw [fN_succ _ _ _ (by rw [List.length_drop]; omega), rd_drop]
theorem rk_arc {nodes : Int} {l : List S61} (h : netOkB nodes l = true) {x : S61} (hx : x ∈ l) : 0 ≤ x.f0 ∧ x.f0 < nodes ∧ 0 ≤ x.f1 ∧ x.f1 < nodes ∧ x.f0 ≠ x.f1 ∧ 0 ≤ x.f2 ∧ x.f2 ≤ 99 := by
  simp only [netOkB, Bool.and_eq_true, Bool.not_eq_true', decide_eq_true_eq, List.any_eq_false] at h
  obtain ⟨⟨⟨h1, h2⟩, h3⟩, h4⟩ := h
  have hb := Bool.eq_false_iff.2 (h4 x hx)
  simp only [badArc, inB, costB, loadB, Bool.or_eq_false_iff, Bool.not_eq_false', Bool.and_eq_true, decide_eq_true_eq, beq_eq_false_iff_ne] at hb
  rw [w64 (by omega)] at hb
  obtain ⟨⟨⟨⟨⟨⟨a, b⟩, c, d⟩, e⟩, f⟩, g⟩, i⟩ := hb
  exact ⟨a, by omega, c, by omega, e, f.1, f.2⟩
theorem rk_bounds {nodes : Int} {l : List S61} (h : netOkB nodes l = true) : 1 ≤ nodes ∧ nodes ≤ 8 ∧ l.length ≤ 16 := by
  simp only [netOkB, Bool.and_eq_true, decide_eq_true_eq] at h
  exact ⟨h.1.1.1, h.1.1.2, h.1.2⟩
theorem arcG_box {n : Int} {l : List S61} (h : netOkB n l = true) : Box (arcS l) := by
  have : ∀ (l : List S61) (F : Int → Int → Int), (∀ x ∈ l, 0 ≤ x.f2) → (∀ a b, 0 ≤ F a b ∧ F a b ≤ 99999) → ∀ a b, 0 ≤ l.foldl (fun F x => upd F x.f0 x.f1 (mn (F x.f0 x.f1) x.f2)) F a b ∧ l.foldl (fun F x => upd F x.f0 x.f1 (mn (F x.f0 x.f1) x.f2)) F a b ≤ 99999 := by
    intro l
    induction l with
    | nil => exact fun F _ h => h
    | cons x l ih =>
      intro F hx h
      refine ih _ (fun y hy => hx y (by simp [hy])) (fun a b => ?_)
      have h1 := hx x (by simp)
      have h2 := h x.f0 x.f1
      have h3 := h a b
      show 0 ≤ upd F x.f0 x.f1 (mn (F x.f0 x.f1) x.f2) a b ∧ upd F x.f0 x.f1 (mn (F x.f0 x.f1) x.f2) a b ≤ 99999
      unfold upd mn
      split <;> (try split) <;> omega
  have hc : ∀ x ∈ l, 0 ≤ x.f2 := fun x hx => by
    have := rk_arc h hx
    omega
  intro a b
  exact this l far2 hc (fun _ _ => by unfold far2; omega) a b
theorem ndS_box {order : List Int} {s : Tabs} (h : Box s) : ∀ i, Box (ndS order s i)
  | 0 => h
  | i + 1 => rkNode_box _ (ndS_box h i)
theorem rwS_box {order : List Int} {s : Tabs} (h : Box s) (i x : Nat) : Box (rwS order s i x) := rkNode_box _ h
theorem abS_box {order : List Int} {s : Tabs} (h : Box s) (i : Nat) (a : Int) (y : Nat) : Box (abS order s i a y) := rkRow_box _ h
end Go.Proofs.Ytdlaaccnaokdnaa.M
set_option linter.unusedVariables false
namespace Go.Proofs.Ytdlaaccnaokdnaa.M
open Go.RowKit Go.Proofs.Ytdlaaccnaokdnaa.P Go.Proofs.YtdlaaccnaokdnaaV.PrintWords Go.Proofs.YtdlaaccnaokdnaaV.PrintMore
def cst2 (x : Int) : Int → Int → Int := fun _ _ => x
theorem mat_cst (n : Nat) (x : Int) : mat n (cst2 x) = List.replicate n (List.replicate n x) := by
  have : ∀ m : Nat, ((List.range m).map fun (i : Nat) => rowF n (cst2 x (i : Int))) = List.replicate m (List.replicate n x) := by
    intro m
    have e : (fun (i : Nat) => rowF n (cst2 x (i : Int))) = fun _ => List.replicate n x := funext fun i => rowF_const n x
    rw [e, List.map_const', List.length_range]
  exact this n
theorem grid_all {n : Int} (h0 : 0 ≤ n) (h8 : n ≤ 8) (x : Int) : Ev (fun k => impl_grid.f k n x) (mat n.toNat (cst2 x)) := by
  rw [mat_cst]
  refine Ev.congr (G := fun k => impl_grid.l0 k n x [] n 0) (fun k => by unfold impl_grid.f; rw [if_pos h0, if_pos (by omega)]) ?_
  refine downto (P := fun i => Ev (fun k => impl_grid.l0 k n x (List.replicate i (List.replicate n.toNat x)) n (i : Int)) (List.replicate n.toNat (List.replicate n.toNat x))) (n := n.toNat) ?_ ?_
  · exact Ev.step (fun k => by simp only [impl_grid.l0]; rw [if_neg (by omega)]) (Ev.ret _)
  · intro i hi h
    refine Ev.step (fun k => ?_) h
    simp only [impl_grid.l0]
    rw [if_pos (by omega)]
    unfold slices_Repeat_int.f slices_Clip_int_int.f
    rw [if_pos ⟨rfl, h0, h8⟩, Option.bind_some, Option.bind_some, if_pos (by rw [List.length_replicate]; omega), w64s (by omega), List.replicate_succ']
    rfl
theorem grid_some {n : Int} (h0 : 0 ≤ n) (h8 : n ≤ 8) (x : Int) : ∃ k, impl_grid.f k n x = some (mat n.toNat (cst2 x)) := by
  obtain ⟨k, hk⟩ := grid_all h0 h8 x
  exact ⟨k, hk k (Nat.le_refl _)⟩
theorem specgrid_all {n : Int} {l : List S61} (hok : netOkB n l = true) : Ev (fun k => spec_l8Grid.f k n l) (mat n.toNat (arcG l)) := by
  obtain ⟨n1, n8, hl⟩ := rk_bounds hok
  show Ev (fun k => spec_l8Grid.l0 k [] 0 n l) _
  refine downto (P := fun i => Ev (fun k => spec_l8Grid.l0 k (List.replicate i (List.replicate n.toNat 99999)) (i : Int) n l) (mat n.toNat (arcG l))) (n := n.toNat) ?_ ?_
  · refine Ev.step (fun k => by simp only [spec_l8Grid.l0]; rw [if_neg (by omega)]) ?_
    rw [← mat_const]
    refine downto (P := fun i => Ev (fun k => spec_l8Grid.l2 k (mat n.toNat (arcG (l.take i))) (i : Int) n l) (mat n.toNat (arcG l))) (n := l.length) ?_ ?_
    · rw [List.take_length]
      exact Ev.step (fun k => by simp only [spec_l8Grid.l2]; rw [if_neg (by omega)]) (Ev.ret _)
    · intro i hi h
      obtain ⟨a0, a1, b0, b1, _⟩ := rk_arc hok (List.getElem_mem hi)
      rw [arcG_succ l i hi] at h
      generalize arcG (l.take i) = F at h ⊢
      refine Ev.step (fun k => ?_) h
      simp only [spec_l8Grid.l2]
      rw [if_pos (by omega), if_pos (by omega), rd_T61_at l i hi, if_pos a0, mat_len, if_pos (by omega), if_pos b0, mat_row_len F a0 (by omega), if_pos (by omega), rd_mat2 F a0 (by omega) b0 (by omega), mat_put F a0 (by omega) b0, w64s (by omega)]
      unfold mn
      by_cases h2 : l[i].f2 < F l[i].f0 l[i].f1
      · rw [if_pos h2, if_pos h2]
      · rw [if_neg h2, if_neg h2]
        congr 2
        funext x y
        unfold upd
        by_cases e : x = l[i].f0 ∧ y = l[i].f1
        · rw [if_pos e, e.1, e.2]
        · rw [if_neg e]
  · intro i hi h
    refine Ev.step (fun k => by simp only [spec_l8Grid.l0]; rw [if_pos (by omega), if_pos (by omega), if_pos (by omega)]) ?_
    have key : ∀ j : Nat, j ≤ n.toNat → (List.replicate j (99999 : Int) ++ List.replicate (n.toNat - j) 0).length = n.toNat := fun j hj => by simp; omega
    refine downto (P := fun j => Ev (fun k => spec_l8Grid.l1 k (List.replicate i (List.replicate n.toNat 99999)) (i : Int) (List.replicate j (99999 : Int) ++ List.replicate (n.toNat - j) 0) (j : Int) n l) (mat n.toNat (arcG l))) (n := n.toNat) ?_ ?_
    · refine Ev.step (fun k => ?_) h
      simp only [spec_l8Grid.l1]
      rw [if_neg (by omega), if_pos (by rw [List.length_replicate]; omega), w64s (by omega), Nat.sub_self, List.replicate_zero, List.append_nil, List.replicate_succ' (n := i)]
    · intro j hj h2
      refine Ev.step (fun k => ?_) h2
      simp only [spec_l8Grid.l1]
      rw [if_pos (by omega), if_pos (by omega), if_pos (by rw [key j (by omega)]; omega), w64s (by omega)]
      congr 1
      rw [show n.toNat - j = (n.toNat - (j + 1)) + 1 from by omega, List.replicate_succ, Int.toNat_natCast, List.set_append]
      simp [List.replicate_succ']
theorem specgrid_some {n : Int} {l : List S61} (hok : netOkB n l = true) : ∃ k, spec_l8Grid.f k n l = some (mat n.toNat (arcG l)) := by
  obtain ⟨k, hk⟩ := specgrid_all hok
  exact ⟨k, hk k (Nat.le_refl _)⟩
/-- the hierarchy of a net that is ok by an order of its nodes -/
def rkF (n : Int) (l : List S61) (order : List Int) : Option (List Int × List (List Int) × List (List Int)) :=
  if netOkB n l = true ∧ Ord order n then some (order, mat n.toNat (rkAll order (arcS l)).1, mat n.toNat (rkAll order (arcS l)).2) else none
end Go.Proofs.Ytdlaaccnaokdnaa.M
