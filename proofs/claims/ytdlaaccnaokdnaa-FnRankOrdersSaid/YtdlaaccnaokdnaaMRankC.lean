/- Going up from a node in a hierarchy: what it costs to each, step by step; where two meet. -/
import Derived.Test.YtdlaaccnaokdnaaMRankG
set_option linter.unusedVariables false
namespace Go.Proofs.Ytdlaaccnaokdnaa.M
open Go.RowKit Go.Proofs.Ytdlaaccnaokdnaa.P Go.Proofs.YtdlaaccnaokdnaaV.PrintWords Go.Proofs.YtdlaaccnaokdnaaV.PrintMore
def cl1 (K : Int → Int → Int) (m : Int) (d : Int → Int) (b : Int) : Int → Int := if d m < 99999 ∧ K m b < 99999 then upd1 d b (mn (d b) (d m + K m b)) else d
def clN (K : Int → Int → Int) (m : Int) (later : List Int) (d : Int → Int) : Int → Int := later.foldl (cl1 K m) d
def clAll (K : Int → Int → Int) : List Int → (Int → Int) → Int → Int
  | [], d => d
  | m :: later, d => clAll K later (clN K m later d)
def ndC (K : Int → Int → Int) (order : List Int) (d : Int → Int) : Nat → Int → Int
  | 0 => d
  | i + 1 => clN K (rd order (i : Int)) (order.drop (i + 1)) (ndC K order d i)
def abC (K : Int → Int → Int) (order : List Int) (d : Int → Int) (i x : Nat) : Int → Int := fN (cl1 K (rd order (i : Int))) (order.drop (i + 1)) d x
theorem ndC_all (K : Int → Int → Int) (order : List Int) (d : Int → Int) : ndC K order d order.length = clAll K order d := by
  have : ∀ i, i ≤ order.length → clAll K (order.drop i) (ndC K order d i) = clAll K order d := by
    intro i
    induction i with
    | zero => exact fun _ => by rw [List.drop_zero]; rfl
    | succ i ih =>
      intro hi
      have h1 := ih (by omega)
      rw [List.drop_eq_getElem_cons (by omega)] at h1
      rw [← h1]
      show _ = clAll K (order.drop (i + 1)) (clN K order[i] (order.drop (i + 1)) (ndC K order d i))
      rw [← rd_at0 order i (by omega)]
      rfl
  have h2 := this order.length (Nat.le_refl _)
  rw [List.drop_length] at h2
  exact h2
theorem abC_all (K : Int → Int → Int) (order : List Int) (d : Int → Int) (i : Nat) : abC K order d i (order.length - (i + 1)) = clN K (rd order (i : Int)) (order.drop (i + 1)) d := by
  unfold abC
  rw [← List.length_drop, fN_all]
  rfl
theorem abC_succ (K : Int → Int → Int) (order : List Int) (d : Int → Int) (i x : Nat) (hx : i + 1 + x < order.length) : abC K order d i (x + 1) = cl1 K (rd order (i : Int)) (abC K order d i x) (rd order ((i + 1 + x : Nat) : Int)) := by
  unfold abC
  rw [fN_succ _ _ _ (by rw [List.length_drop]; omega), rd_drop]
def Bx1 (d : Int → Int) : Prop := ∀ y : Int, 0 ≤ d y ∧ d y ≤ 99999
theorem cl1_box {K : Int → Int → Int} (hK : ∀ a b, 0 ≤ K a b) {d : Int → Int} (h : Bx1 d) (m b : Int) : Bx1 (cl1 K m d b) := by
  unfold cl1
  by_cases hc : d m < 99999 ∧ K m b < 99999
  · rw [if_pos hc]
    intro y
    unfold upd1 mn
    have h1 := h y
    have h2 := h b
    have h3 := h m
    have h4 := hK m b
    split <;> (try split) <;> omega
  · rw [if_neg hc]; exact h
theorem foldC_box {K : Int → Int → Int} (hK : ∀ a b, 0 ≤ K a b) {m : Int} : ∀ (l : List Int) {d : Int → Int}, Bx1 d → Bx1 (l.foldl (cl1 K m) d)
  | [], d, h => h
  | b :: l, d, h => foldC_box hK l (cl1_box hK h m b)
theorem ndC_box {K : Int → Int → Int} (hK : ∀ a b, 0 ≤ K a b) {order : List Int} {d : Int → Int} (h : Bx1 d) : ∀ i, Bx1 (ndC K order d i)
  | 0 => h
  | i + 1 => foldC_box hK _ (ndC_box hK h i)
theorem abC_box {K : Int → Int → Int} (hK : ∀ a b, 0 ≤ K a b) {order : List Int} {d : Int → Int} (h : Bx1 d) (i x : Nat) : Bx1 (abC K order d i x) := foldC_box hK _ h
theorem clAll_box {K : Int → Int → Int} (hK : ∀ a b, 0 ≤ K a b) : ∀ (l : List Int) {d : Int → Int}, Bx1 d → Bx1 (clAll K l d)
  | [], d, h => h
  | m :: l, d, h => clAll_box hK l (foldC_box hK l h)
/-- nothing at the node itself, far everywhere else -/
def at0 (s : Int) : Int → Int := upd1 (fun _ => 99999) s 0
theorem at0_box (s : Int) : Bx1 (at0 s) := fun y => by unfold at0 upd1; by_cases h : y = s <;> simp [h]
theorem cl1_no {K : Int → Int → Int} {m : Int} {d : Int → Int} {b : Int} (h : ¬ (d m < 99999 ∧ K m b < 99999)) : cl1 K m d b = d := if_neg h
theorem cl1_yes {K : Int → Int → Int} {m : Int} {d : Int → Int} {b : Int} (h : d m < 99999 ∧ K m b < 99999) : cl1 K m d b = upd1 d b (mn (d b) (d m + K m b)) := if_pos h
/-- over which node two meet, and what that costs -/
def mt1 (u v : Int → Int) (s : Int × Int) (m : Int) : Int × Int := if u m < 99999 ∧ v m < 99999 ∧ u m + v m < s.1 then (u m + v m, m) else s
def meet (order : List Int) (u v : Int → Int) : Int × Int := order.foldl (mt1 u v) (99999, -1)
theorem mt1_no {u v : Int → Int} {s : Int × Int} {m : Int} (h : ¬ (u m < 99999 ∧ v m < 99999 ∧ u m + v m < s.1)) : mt1 u v s m = s := if_neg h
theorem mt1_yes {u v : Int → Int} {s : Int × Int} {m : Int} (h : u m < 99999 ∧ v m < 99999 ∧ u m + v m < s.1) : mt1 u v s m = (u m + v m, m) := if_pos h
def trp (C : Int → Int → Int) : Int → Int → Int := fun a b => C b a
def near (C : Int → Int → Int) (o : List Int) (a b : Int) : Int × Int := meet o (clAll C o (at0 a)) (clAll (trp C) o (at0 b))
theorem upd1_same (d : Int → Int) (b : Int) : upd1 d b (d b) = d := by
  funext y
  unfold upd1
  by_cases h : y = b
  · rw [if_pos h, h]
  · rw [if_neg h]
theorem cl1_not {K : Int → Int → Int} {m : Int} {d : Int → Int} {b : Int} (h : ¬ d m + K m b < d b) : cl1 K m d b = d := by
  unfold cl1
  by_cases hc : d m < 99999 ∧ K m b < 99999
  · rw [if_pos hc, show mn (d b) (d m + K m b) = d b from if_neg h, upd1_same]
  · rw [if_neg hc]
theorem cl1_less {K : Int → Int → Int} {m : Int} {d : Int → Int} {b : Int} (h1 : d m < 99999) (h2 : K m b < 99999) (h : d m + K m b < d b) : cl1 K m d b = upd1 d b (d m + K m b) := by
  rw [cl1_yes ⟨h1, h2⟩, show mn (d b) (d m + K m b) = d m + K m b from if_pos h]
/-- what lies ahead of the node itself does nothing -/
theorem ndC_pre {K : Int → Int → Int} {o : List Int} {s : Int} : ∀ i, i ≤ o.length → (∀ j (hj : j < o.length), j < i → o[j] ≠ s) → ndC K o (at0 s) i = at0 s
  | 0, _, _ => rfl
  | i + 1, hi, h => by
    have h1 := ndC_pre (K := K) i (by omega) (fun j hj hji => h j hj (by omega))
    show clN K (rd o (i : Int)) (o.drop (i + 1)) (ndC K o (at0 s) i) = at0 s
    rw [h1, rd_at0 o i (by omega)]
    have hm : at0 s o[i] = 99999 := by unfold at0 upd1; rw [if_neg (h i (by omega) (by omega))]
    have : ∀ l : List Int, clN K o[i] l (at0 s) = at0 s := by
      intro l
      induction l with
      | nil => rfl
      | cons b l ih =>
        show clN K o[i] l (cl1 K o[i] (at0 s) b) = at0 s
        rw [cl1_no (fun h => by rw [hm] at h; omega), ih]
    exact this _
/-- a square table as a function -/
def tb (c : List (List Int)) : Int → Int → Int := fun a b => rd (rd_L5 c a) b
def UpOk (o : List Int) (c : List (List Int)) (s : Int) : Prop := Ord o (o.length : Int) ∧ (1 ≤ o.length ∧ o.length ≤ 8) ∧ c = mat o.length (tb c) ∧ (0 ≤ s ∧ s < (o.length : Int)) ∧ ∀ r ∈ c, ∀ x ∈ r, 0 ≤ x ∧ x ≤ 99999
instance (o : List Int) (c : List (List Int)) (s : Int) : Decidable (UpOk o c s) := by unfold UpOk; infer_instance
theorem rd_mem_or (l : List Int) (i : Int) : rd l i ∈ l ∨ rd l i = 0 := by
  unfold rd
  rw [List.getD_eq_getElem?_getD]
  cases h : l[i.toNat]? with
  | none => exact .inr rfl
  | some x => exact .inl (List.mem_of_getElem? h)
theorem rdL5_mem_or (l : List (List Int)) (i : Int) : rd_L5 l i ∈ l ∨ rd_L5 l i = [] := by
  unfold rd_L5
  rw [List.getD_eq_getElem?_getD]
  cases h : l[i.toNat]? with
  | none => exact .inr rfl
  | some x => exact .inl (List.mem_of_getElem? h)
theorem tb_bx {c : List (List Int)} (h : ∀ r ∈ c, ∀ x ∈ r, 0 ≤ x ∧ x ≤ 99999) : ∀ a b : Int, 0 ≤ tb c a b ∧ tb c a b ≤ 99999 := by
  intro a b
  unfold tb
  rcases rdL5_mem_or c a with h1 | h1
  · rcases rd_mem_or (rd_L5 c a) b with h2 | h2
    · exact h _ h1 _ h2
    · rw [h2]; omega
  · rw [h1]
    simp [rd]
def pickK (back : Bool) (C : Int → Int → Int) : Int → Int → Int := if back = true then trp C else C
end Go.Proofs.Ytdlaaccnaokdnaa.M
