/- The reference's answer of a way over edge nodes: it tries all of them, round by round; The reference's loops of a way over edge nodes. -/
import Derived.Test.YtblpdfgplifccaaMNearA
import Derived.Test.YtblpdfgplifccaaMList
import Derived.Test.YtblpdfgplifccaaPFSpecL10Best
set_option linter.unusedVariables false
namespace Go.Proofs.Ytblpdfgplifccaa.M
open Go.RowKit Go.Proofs.Ytblpdfgplifccaa.P Go.Proofs.YtblpdfgplifccaaV.PrintWords Go.Proofs.YtblpdfgplifccaaV.PrintMore
/-- from i over the table O, the first k places -/
def rlF (O : Int → Int → Int) (i : Int) (F : Int → Int) : Nat → Int → Int
  | 0 => F
  | k + 1 => upd1 (rlF O i F k) (k : Int) (mn (rlF O i F k (k : Int)) (rlF O i F k i + O i (k : Int)))
def rlR (O : Int → Int → Int) (n : Nat) (F : Int → Int) : Nat → Int → Int
  | 0 => F
  | i + 1 => rlF O (i : Int) (rlR O n F i) n
def rlN (O : Int → Int → Int) (n : Nat) (F : Int → Int) : Nat → Int → Int
  | 0 => F
  | r + 1 => rlR O n (rlN O n F r) n
/-- no less than the distance, no more than far -/
structure Low (n : Nat) (d : Int → Int) (F : Int → Int) : Prop where
  lo : ∀ y : Int, 0 ≤ y → y < n → d y ≤ F y
  hi : ∀ y : Int, 0 ≤ y → y < n → F y ≤ 99999
section
variable {n : Nat} {O : Int → Int → Int} {d : Int → Int} {F : Int → Int}
theorem upd1_mn (F : Int → Int) (k x y : Int) : upd1 F k (mn (F k) x) y ≤ F y := by
  unfold upd1
  by_cases e : y = k
  · rw [if_pos e, e]; exact mn_le.1
  · rw [if_neg e]; exact Int.le_refl _
theorem rlF_le (i : Int) : ∀ (k : Nat) (y : Int), rlF O i F k y ≤ F y
  | 0, y => Int.le_refl _
  | k + 1, y => Int.le_trans (upd1_mn _ _ _ y) (rlF_le i k y)
theorem rlF_arc (i : Int) : ∀ (k : Nat) (y : Int), 0 ≤ y → y < k → rlF O i F k y ≤ F i + O i y
  | 0, y, h0, h1 => absurd h1 (by omega)
  | k + 1, y, h0, h1 => by
    show upd1 (rlF O i F k) (k : Int) (mn (rlF O i F k (k : Int)) (rlF O i F k i + O i (k : Int))) y ≤ _
    by_cases e : y = (k : Int)
    · unfold upd1
      rw [if_pos e, e]
      have h2 := rlF_le (O := O) (F := F) i k i
      have h3 := (mn_le (a := rlF O i F k (k : Int)) (b := rlF O i F k i + O i (k : Int))).2
      omega
    · exact Int.le_trans (upd1_mn _ _ _ y) (rlF_arc i k y h0 (by omega))
theorem rlF_low (hO : ∀ i y : Int, 0 ≤ i → i < n → 0 ≤ y → y < n → d y ≤ d i + O i y) (h : Low n d F) {i : Int} (i0 : 0 ≤ i) (i1 : i < n) : ∀ k : Nat, k ≤ n → Low n d (rlF O i F k)
  | 0, _ => h
  | k + 1, hk => by
    have ih := rlF_low hO h i0 i1 k (by omega)
    refine ⟨fun y y0 y1 => ?_, fun y y0 y1 => Int.le_trans (upd1_mn _ _ _ y) (ih.hi y y0 y1)⟩
    show d y ≤ upd1 (rlF O i F k) (k : Int) (mn (rlF O i F k (k : Int)) (rlF O i F k i + O i (k : Int))) y
    unfold upd1
    by_cases e : y = (k : Int)
    · rw [if_pos e, ← e]
      have h1 := ih.lo y y0 y1
      have h2 := ih.lo i i0 i1
      have h3 := hO i y i0 i1 y0 y1
      rcases mn_cases (rlF O i F k y) (rlF O i F k i + O i y) with e1 | e1 <;> rw [e1] <;> omega
    · rw [if_neg e]; exact ih.lo y y0 y1
theorem rlR_le : ∀ (i : Nat) (y : Int), rlR O n F i y ≤ F y
  | 0, y => Int.le_refl _
  | i + 1, y => Int.le_trans (rlF_le _ n y) (rlR_le i y)
theorem rlR_arc : ∀ (m : Nat), ∀ (i y : Int), 0 ≤ i → i < m → 0 ≤ y → y < n → rlR O n F m y ≤ F i + O i y
  | 0, i, y, h0, h1, _, _ => absurd h1 (by omega)
  | m + 1, i, y, h0, h1, y0, y1 => by
    show rlF O (m : Int) (rlR O n F m) n y ≤ _
    by_cases e : i = (m : Int)
    · have h2 := rlF_arc (O := O) (F := rlR O n F m) (m : Int) n y y0 y1
      have h3 := rlR_le (O := O) (n := n) (F := F) m (m : Int)
      rw [e]
      omega
    · exact Int.le_trans (rlF_le _ n y) (rlR_arc m i y h0 (by omega) y0 y1)
theorem rlR_low (hO : ∀ i y : Int, 0 ≤ i → i < n → 0 ≤ y → y < n → d y ≤ d i + O i y) (h : Low n d F) : ∀ i : Nat, i ≤ n → Low n d (rlR O n F i)
  | 0, _ => h
  | i + 1, hi => rlF_low hO (rlR_low hO h i (by omega)) (by omega) (by omega) n (Nat.le_refl _)
theorem rlN_low (hO : ∀ i y : Int, 0 ≤ i → i < n → 0 ≤ y → y < n → d y ≤ d i + O i y) (h : Low n d F) : ∀ r : Nat, Low n d (rlN O n F r)
  | 0 => h
  | r + 1 => rlR_low hO (rlN_low hO h r) n (Nat.le_refl _)
theorem rlN_mono {r : Nat} (y : Int) : ∀ {q : Nat}, r ≤ q → rlN O n F q y ≤ rlN O n F r y := by
  intro q h
  induction q with
  | zero => obtain rfl : r = 0 := by omega
            exact Int.le_refl _
  | succ q ih =>
    by_cases e : r = q + 1
    · rw [e]; exact Int.le_refl _
    · exact Int.le_trans (rlR_le n y) (ih (by omega))
theorem rlN_arc {r : Nat} {i y : Int} (i0 : 0 ≤ i) (i1 : i < n) (y0 : 0 ≤ y) (y1 : y < n) : rlN O n F (r + 1) y ≤ rlN O n F r i + O i y := rlR_arc n i y i0 i1 y0 y1
end
/-- where one may be at the first: the edge nodes of the part -/
def far0 (l : List S33) (p : List Int) (T : List (List Int)) (f : Int) : Int → Int := fun y => if rd p y = rd p f ∧ edgeP l p y = true then tabF T f y else 99999
section
variable {n : Nat} {l : List S33} {p : List Int} {D T : List (List Int)}
theorem far0_low (h : Parts n l p D T) {f : Int} (hf : 0 ≤ f ∧ f < n) : Low n (tabF D f) (far0 l p T f) := by
  refine ⟨fun y y0 y1 => ?_, fun y y0 y1 => ?_⟩
  · unfold far0
    by_cases e : rd p y = rd p f ∧ edgeP l p y = true
    · rw [if_pos e]; exact h.in_le hf.1 hf.2 y0 y1
    · rw [if_neg e]; exact (h.d.at hf ⟨y0, y1⟩).2.2
  · unfold far0
    by_cases e : rd p y = rd p f ∧ edgeP l p y = true
    · rw [if_pos e]; exact (h.t.at hf ⟨y0, y1⟩).2.2
    · rw [if_neg e]; exact Int.le_refl _
theorem over_low (h : Parts n l p D T) {f : Int} (hf : 0 ≤ f ∧ f < n) : ∀ i y : Int, 0 ≤ i → i < n → 0 ≤ y → y < n → tabF D f y ≤ tabF D f i + overF p l T i y := fun i y i0 i1 y0 y1 => by
  have h1 := h.d.tri f i y hf.1 hf.2 i0 i1 y0 y1
  have h2 := (h.over_ge i0 i1 y0 y1).1
  omega
/-- a walk of k arcs: it stays in its part, or the rounds have met it -/
theorem walk_rounds (h : Parts n l p D T) {f : Int} (hf : 0 ≤ f ∧ f < n) {k : Nat} {y c : Int} (w : WalkN l f k y c) : (0 ≤ y ∧ y < n) ∧ ((rd p y = rd p f ∧ tabF T f y ≤ c) ∨ ∃ b : Int, ∃ j : Nat, (0 ≤ b ∧ b < n) ∧ rd p b = rd p y ∧ edgeP l p b = true ∧ j ≤ k ∧ (b ≠ y → j + 1 ≤ k) ∧ rlN (overF p l T) n (far0 l p T f) j b + tabF T b y ≤ c) := by
  induction w with
  | nil => exact ⟨hf, .inl ⟨rfl, by rw [h.t.self hf.1 hf.2]; omega⟩⟩
  | snoc w hx ih =>
    rename_i x k c
    obtain ⟨x0, x1, x2, x3, x4, x5⟩ := h.good x hx
    refine ⟨⟨x2, x3⟩, ?_⟩
    by_cases hc : rd p x.f0 = rd p x.f1
    · have hin : x ∈ inArcs p l := List.mem_filter.2 ⟨hx, by simp [cutB, hc]⟩
      have ha := fun {a : Int} (a0 : 0 ≤ a) (a1 : a < n) => h.t.arcs (in_good h.good) a0 a1 hin
      rcases ih.2 with ⟨h0, h1⟩ | ⟨b, j, ⟨b0, b1⟩, e1, e2, j1, j2, h1⟩
      · have := ha hf.1 hf.2
        exact .inl ⟨hc.symm.trans h0, by omega⟩
      · have := ha b0 b1
        exact .inr ⟨b, j, ⟨b0, b1⟩, e1.trans hc, e2, by omega, fun _ => by omega, by omega⟩
    · obtain ⟨c1, c2⟩ := cut_ends hx hc
      have hO := over_arc (T := T) hx hc
      have hs := h.t.self x2 x3
      have arc := fun (r : Nat) => rlN_arc (O := overF p l T) (F := far0 l p T f) (r := r) x0 x1 x2 x3
      rcases ih.2 with ⟨h0, h1⟩ | ⟨b, j, ⟨b0, b1⟩, e1, e2, j1, j2, h1⟩
      · have h2 : rlN (overF p l T) n (far0 l p T f) 0 x.f0 = tabF T f x.f0 := if_pos ⟨h0, c1⟩
        have h3 := arc 0
        exact .inr ⟨x.f1, 0 + 1, ⟨x2, x3⟩, rfl, c2, by omega, fun h => absurd rfl h, by omega⟩
      · by_cases e : b = x.f0
        · subst e
          have h3 := arc j
          have h4 := h.t.self x0 x1
          exact .inr ⟨x.f1, j + 1, ⟨x2, x3⟩, rfl, c2, by omega, fun h => absurd rfl h, by omega⟩
        · have h4 : overF p l T b x.f0 = tabF T b x.f0 := if_pos ⟨e, e1, e2, c1⟩
          have h5 := rlN_arc (O := overF p l T) (F := far0 l p T f) (r := j) b0 b1 x0 x1
          have h3 := arc (j + 1)
          have := j2 e
          exact .inr ⟨x.f1, j + 1 + 1, ⟨x2, x3⟩, rfl, c2, by omega, fun h => absurd rfl h, by omega⟩
/-- the least over the edge nodes of the aim's part -/
def bestN (p : List Int) (t : Int) (F B : Int → Int) (b0 : Int) : Nat → Int
  | 0 => b0
  | i + 1 => if rd p (i : Int) = rd p t then mn (bestN p t F B b0 i) (F (i : Int) + B (i : Int)) else bestN p t F B b0 i
theorem bestN_le (t : Int) (F B : Int → Int) (b0 : Int) : ∀ m : Nat, bestN p t F B b0 m ≤ b0 ∧ ∀ i : Nat, i < m → rd p (i : Int) = rd p t → bestN p t F B b0 m ≤ F (i : Int) + B (i : Int)
  | 0 => ⟨Int.le_refl _, fun i h => absurd h (Nat.not_lt_zero _)⟩
  | m + 1 => by
    obtain ⟨h1, h2⟩ := bestN_le t F B b0 m
    show (if rd p (m : Int) = rd p t then mn (bestN p t F B b0 m) (F (m : Int) + B (m : Int)) else bestN p t F B b0 m) ≤ b0 ∧ ∀ i : Nat, i < m + 1 → rd p (i : Int) = rd p t → (if rd p (m : Int) = rd p t then mn (bestN p t F B b0 m) (F (m : Int) + B (m : Int)) else bestN p t F B b0 m) ≤ F (i : Int) + B (i : Int)
    by_cases e : rd p (m : Int) = rd p t
    · rw [if_pos e]
      refine ⟨Int.le_trans mn_le.1 h1, fun i hi hp => ?_⟩
      by_cases e2 : i = m
      · rw [e2]; exact mn_le.2
      · exact Int.le_trans mn_le.1 (h2 i (by omega) hp)
    · rw [if_neg e]
      refine ⟨h1, fun i hi hp => ?_⟩
      by_cases e2 : i = m
      · exact absurd (e2 ▸ hp) e
      · exact h2 i (by omega) hp
theorem bestN_ge (t : Int) (F B : Int → Int) (b0 x : Int) (hb : x ≤ b0) (h : ∀ i : Nat, i < n → x ≤ F (i : Int) + B (i : Int)) : ∀ m : Nat, m ≤ n → x ≤ bestN p t F B b0 m
  | 0, _ => hb
  | m + 1, hm => by
    have ih := bestN_ge t F B b0 x hb h m (by omega)
    show x ≤ (if rd p (m : Int) = rd p t then mn (bestN p t F B b0 m) (F (m : Int) + B (m : Int)) else bestN p t F B b0 m)
    have := h m (by omega)
    by_cases e : rd p (m : Int) = rd p t
    · rw [if_pos e]
      rcases mn_cases (bestN p t F B b0 m) (F (m : Int) + B (m : Int)) with e1 | e1 <;> rw [e1] <;> assumption
    · rw [if_neg e]; exact ih
theorem best_dist (h : Parts n l p D T) {f t : Int} (hf : 0 ≤ f ∧ f < n) (ht : 0 ≤ t ∧ t < n) : bestN p t (rlN (overF p l T) n (far0 l p T f) n) (fun i => tabF T i t) (if rd p f = rd p t then tabF T f t else 99999) n = tabF D f t := by
  have d0 := h.d.at hf ht
  have hlow := rlN_low (over_low h hf) (far0_low h hf) n
  refine Int.le_antisymm ?_ (bestN_ge t _ _ _ _ ?_ (fun i hi => ?_) n (Nat.le_refl _))
  · obtain ⟨b1, b2⟩ := bestN_le (p := p) t (rlN (overF p l T) n (far0 l p T f) n) (fun i => tabF T i t) (if rd p f = rd p t then tabF T f t else 99999) n
    by_cases e : rd (rd_L5 D f) t = 99999
    · refine Int.le_trans b1 ?_
      show _ ≤ rd (rd_L5 D f) t
      rw [e]
      by_cases e2 : rd p f = rd p t
      · rw [if_pos e2]; exact (h.t.at hf ht).2.2
      · rw [if_neg e2]; exact Int.le_refl _
    · obtain ⟨k, hk, w⟩ := (h.d.row f hf.1 hf.2).short t ht.1 ht.2 e
      rcases (walk_rounds h hf w).2 with ⟨e1, h1⟩ | ⟨b, j, ⟨c0, c1⟩, e1, e2, j1, j2, h1⟩
      · rw [if_pos e1.symm] at b1
        rw [if_pos e1.symm]
        exact Int.le_trans b1 h1
      · obtain ⟨i, rfl⟩ := Int.eq_ofNat_of_zero_le c0
        have h2 := b2 i (by omega) e1
        have h3 := rlN_mono (O := overF p l T) (n := n) (F := far0 l p T f) (i : Int) (r := j) (q := n) (by omega)
        exact Int.le_trans h2 (Int.le_trans (Int.add_le_add_right h3 _) h1)
  · by_cases e2 : rd p f = rd p t
    · rw [if_pos e2]; exact h.in_le hf.1 hf.2 ht.1 ht.2
    · rw [if_neg e2]; exact d0.2.2
  · have h1 := hlow.lo (i : Int) (by omega) (by omega)
    have h2 := h.in_le (a := (i : Int)) (b := t) (by omega) (by omega) ht.1 ht.2
    have h3 := h.d.tri f (i : Int) t hf.1 hf.2 (by omega) (by omega) ht.1 ht.2
    exact Int.le_trans h3 (Int.add_le_add h1 h2)
end
end Go.Proofs.Ytblpdfgplifccaa.M
set_option linter.unusedVariables false
namespace Go.Proofs.Ytblpdfgplifccaa.M
open Go.RowKit Go.Proofs.Ytblpdfgplifccaa.P Go.Proofs.YtblpdfgplifccaaV.PrintWords Go.Proofs.YtblpdfgplifccaaV.PrintMore
section
variable {n : Nat} {l : List S33} {p : List Int} {D T : List (List Int)}
theorem upd1_same (F : Int → Int) (b : Int) : upd1 F b (F b) = F := by
  funext j
  unfold upd1
  by_cases h : j = b
  · rw [if_pos h, h]
  · rw [if_neg h]
theorem best_l3 (hn : n ≤ 8) {O : Int → Int → Int} {nodes : Int} (hnn : nodes = n) {f t : Int} {Dl E : List Int} {d : Int → Int} (hO : ∀ i y : Int, 0 ≤ i → i < n → 0 ≤ y → y < n → d y ≤ d i + O i y) (hO2 : ∀ i y : Int, 0 ≤ i → i < n → 0 ≤ y → y < n → 0 ≤ O i y ∧ O i y ≤ 99999) (hd : ∀ y : Int, 0 ≤ y → y < n → 0 ≤ d y) {F : Int → Int} (hF : Low n d F) {r i : Int} (i0 : 0 ≤ i) (i1 : i < n) {R : Int}
    (hR : Ev (fun k => spec_l10Best.l2 k p f t (mat n O) Dl E (rowF n (rlF O i F n)) r (wrap64 (i + 1)) nodes l) R) : Ev (fun k => spec_l10Best.l3 k p f t (mat n O) Dl E (rowF n F) r i 0 nodes l) R := by
  refine downto (P := fun y => Ev (fun k => spec_l10Best.l3 k p f t (mat n O) Dl E (rowF n (rlF O i F y)) r i (y : Int) nodes l) R) (n := n) ?_ ?_
  · exact Ev.step (fun k => by simp only [spec_l10Best.l3]; rw [if_neg (by omega)]) hR
  · intro y hy hnext
    have hG := rlF_low hO hF i0 i1 y (by omega)
    have y0 : (0 : Int) ≤ (y : Int) := Int.natCast_nonneg y
    have y1 : (y : Int) < (n : Int) := Int.ofNat_lt.2 hy
    have e : rlF O i F (y + 1) = upd1 (rlF O i F y) (y : Int) (mn (rlF O i F y (y : Int)) (rlF O i F y i + O i (y : Int))) := rfl
    rw [e] at hnext
    generalize rlF O i F y = G at hG hnext ⊢
    have g1 := hG.lo i i0 i1
    have g2 := hG.hi i i0 i1
    have g3 := hd i i0 i1
    have g4 := hG.hi y y0 y1
    have g5 := hO2 i y i0 i1 y0 y1
    have hw := w64s (n := y) (by omega)
    have hlt : (y : Int) < nodes := by rw [hnn]; exact y1
    have hlen : i < ((rowF n G).length : Int) := by rw [rowF_len]; exact i1
    have hlen2 : (y : Int) < ((rowF n G).length : Int) := by rw [rowF_len]; exact y1
    have hml : i < ((mat n O).length : Int) := by rw [mat_len]; exact i1
    have hrl : (y : Int) < ((rd_L5 (mat n O) i).length : Int) := by rw [mat_row_len O i0 i1]; exact y1
    have hG1 := rd_rowF (n := n) G i0 i1
    have hG2 := rd_rowF (n := n) G y0 y1
    have hM := rd_mat2 O i0 i1 y0 y1
    have hskip : ¬ (G i + O i (y : Int) < G (y : Int)) → Ev (fun k => spec_l10Best.l3 k p f t (mat n O) Dl E (rowF n G) r i ((y + 1 : Nat) : Int) nodes l) R := fun h => by
      have e2 : mn (G (y : Int)) (G i + O i (y : Int)) = G (y : Int) := if_neg h
      rw [e2, upd1_same] at hnext
      exact hnext
    by_cases h1 : G i < 99999
    · by_cases h2 : O i (y : Int) < 99999
      · have hw2 : wrap64 (G i + O i (y : Int)) = G i + O i (y : Int) := w64 (by omega)
        by_cases h3 : G i + O i (y : Int) < G (y : Int)
        · have e2 : mn (G (y : Int)) (G i + O i (y : Int)) = G i + O i (y : Int) := if_pos h3
          rw [e2] at hnext
          refine Ev.step (fun k => ?_) hnext
          simp only [spec_l10Best.l3]
          rw [if_pos hlt, if_pos i0, if_pos hlen, hG1, if_pos h1, if_pos hml, if_pos y0, if_pos hrl, hM, if_pos h2, if_pos hlen2, hw2, hG2, if_pos h3, hw, rowF_put G y0]
        · refine Ev.step (fun k => ?_) (hskip h3)
          simp only [spec_l10Best.l3]
          rw [if_pos hlt, if_pos i0, if_pos hlen, hG1, if_pos h1, if_pos hml, if_pos y0, if_pos hrl, hM, if_pos h2, if_pos hlen2, hw2, hG2, if_neg h3, hw]
      · refine Ev.step (fun k => ?_) (hskip (by omega))
        simp only [spec_l10Best.l3]
        rw [if_pos hlt, if_pos i0, if_pos hlen, hG1, if_pos h1, if_pos hml, if_pos y0, if_pos hrl, hM, if_neg h2, hw]
    · refine Ev.step (fun k => ?_) (hskip (by omega))
      simp only [spec_l10Best.l3]
      rw [if_pos hlt, if_pos i0, if_pos hlen, hG1, if_neg h1, hw]
theorem best_l1 (hn : n ≤ 8) {O : Int → Int → Int} {nodes : Int} (hnn : nodes = n) {f t : Int} {Dl E : List Int} {d : Int → Int} (hO : ∀ i y : Int, 0 ≤ i → i < n → 0 ≤ y → y < n → d y ≤ d i + O i y) (hO2 : ∀ i y : Int, 0 ≤ i → i < n → 0 ≤ y → y < n → 0 ≤ O i y ∧ O i y ≤ 99999) (hd : ∀ y : Int, 0 ≤ y → y < n → 0 ≤ d y) {F : Int → Int} (hF : Low n d F) (hf : 0 ≤ f ∧ f < n) (ht : 0 ≤ t ∧ t < n) (hp : p.length = n) (hDl : Dl.length = n) {R : Int}
    (hR : Ev (fun k => spec_l10Best.j4 k p t E (rowF n (rlN O n F n)) (if rd p f = rd p t then rd Dl t else 99999) nodes l) R) : Ev (fun k => spec_l10Best.l1 k p f t (mat n O) Dl E (rowF n F) 0 nodes l) R := by
  refine downto (P := fun r => Ev (fun k => spec_l10Best.l1 k p f t (mat n O) Dl E (rowF n (rlN O n F r)) (r : Int) nodes l) R) (n := n) ?_ ?_
  · by_cases e : rd p f = rd p t
    · rw [if_pos e] at hR
      exact Ev.step (fun k => by simp only [spec_l10Best.l1]; rw [if_neg (by omega), if_pos hf.1, if_pos (by omega), if_pos ht.1, if_pos (by omega), if_pos e, if_pos (by omega)]) hR
    · rw [if_neg e] at hR
      exact Ev.step (fun k => by simp only [spec_l10Best.l1]; rw [if_neg (by omega), if_pos hf.1, if_pos (by omega), if_pos ht.1, if_pos (by omega), if_neg e]) hR
  · intro r hr hnext
    refine Ev.step (fun k => by simp only [spec_l10Best.l1]; rw [if_pos (by omega)]) ?_
    have hG := rlN_low hO hF r
    have e : rlN O n F (r + 1) = rlR O n (rlN O n F r) n := rfl
    rw [e] at hnext
    generalize rlN O n F r = G at hG hnext ⊢
    refine downto (P := fun i => Ev (fun k => spec_l10Best.l2 k p f t (mat n O) Dl E (rowF n (rlR O n G i)) (r : Int) (i : Int) nodes l) R) (n := n) ?_ ?_
    · exact Ev.step (fun k => by simp only [spec_l10Best.l2]; rw [if_neg (by omega), w64s (by omega)]) hnext
    · intro i hi hnext2
      refine Ev.step (fun k => by simp only [spec_l10Best.l2]; rw [if_pos (by omega)]) ?_
      refine best_l3 hn hnn hO hO2 hd (rlR_low hO hG i (by omega)) (by omega) (by omega) ?_
      rw [w64s (by omega)]
      exact hnext2
theorem best_l4 (hn : n ≤ 8) {nodes : Int} (hnn : nodes = n) {t : Int} (ht : 0 ≤ t ∧ t < n) (hp : p.length = n) {E : List Int} (hE : E.length = n) {F B : Int → Int} (hB : ∀ i : Int, 0 ≤ i → i < n → rd p i = rd p t → rd E i = B i) (hF2 : ∀ y : Int, 0 ≤ y → y < n → 0 ≤ F y ∧ F y ≤ 99999) (hB2 : ∀ y : Int, 0 ≤ y → y < n → 0 ≤ B y ∧ B y ≤ 99999) {b0 : Int} (hb : b0 ≤ 99999) : Ev (fun k => spec_l10Best.j4 k p t E (rowF n F) b0 nodes l) (bestN p t F B b0 n) := by
  refine Ev.step (fun k => by simp only [spec_l10Best.j4]; rfl) ?_
  refine downto (P := fun i => Ev (fun k => spec_l10Best.l4 k p t E (rowF n F) (bestN p t F B b0 i) (i : Int) nodes l) (bestN p t F B b0 n)) (n := n) ?_ ?_
  · exact Ev.step (fun k => by simp only [spec_l10Best.l4]; rw [if_neg (by omega)]) (Ev.ret _)
  · intro i hi hnext
    have y0 : (0 : Int) ≤ (i : Int) := Int.natCast_nonneg i
    have y1 : (i : Int) < (n : Int) := Int.ofNat_lt.2 hi
    have e : bestN p t F B b0 (i + 1) = if rd p (i : Int) = rd p t then mn (bestN p t F B b0 i) (F (i : Int) + B (i : Int)) else bestN p t F B b0 i := rfl
    rw [e] at hnext
    have hle := Int.le_trans (bestN_le (p := p) t F B b0 i).1 hb
    generalize bestN p t F B b0 i = b at hnext hle ⊢
    have g1 := hF2 i y0 y1
    have g2 := hB2 i y0 y1
    have hw := w64s (n := i) (by omega)
    have hlt : (i : Int) < nodes := by rw [hnn]; exact y1
    have hpl : (i : Int) < (p.length : Int) := by rw [hp]; exact y1
    have htl : t < (p.length : Int) := by rw [hp]; exact ht.2
    have hfl : (i : Int) < ((rowF n F).length : Int) := by rw [rowF_len]; exact y1
    have hel : (i : Int) < (E.length : Int) := by rw [hE]; exact y1
    have hF1 := rd_rowF (n := n) F y0 y1
    by_cases h0 : rd p (i : Int) = rd p t
    · rw [if_pos h0] at hnext
      have hE1 := hB i y0 y1 h0
      have hskip : ¬ (F (i : Int) + B (i : Int) < b) → Ev (fun k => spec_l10Best.l4 k p t E (rowF n F) b ((i + 1 : Nat) : Int) nodes l) (bestN p t F B b0 n) := fun h => by
        have e2 : mn b (F (i : Int) + B (i : Int)) = b := if_neg h
        rw [e2] at hnext
        exact hnext
      by_cases h1 : F (i : Int) < 99999
      · by_cases h2 : B (i : Int) < 99999
        · have hw2 : wrap64 (F (i : Int) + B (i : Int)) = F (i : Int) + B (i : Int) := w64 (by omega)
          by_cases h3 : F (i : Int) + B (i : Int) < b
          · have e2 : mn b (F (i : Int) + B (i : Int)) = F (i : Int) + B (i : Int) := if_pos h3
            rw [e2] at hnext
            refine Ev.step (fun k => ?_) hnext
            simp only [spec_l10Best.l4]
            rw [if_pos hlt, if_pos y0, if_pos hpl, if_pos ht.1, if_pos htl, if_pos h0, if_pos hfl, hF1, if_pos h1, if_pos hel, hE1, if_pos h2, hw2, if_pos h3, hw]
          · refine Ev.step (fun k => ?_) (hskip h3)
            simp only [spec_l10Best.l4]
            rw [if_pos hlt, if_pos y0, if_pos hpl, if_pos ht.1, if_pos htl, if_pos h0, if_pos hfl, hF1, if_pos h1, if_pos hel, hE1, if_pos h2, hw2, if_neg h3, hw]
        · refine Ev.step (fun k => ?_) (hskip (by omega))
          simp only [spec_l10Best.l4]
          rw [if_pos hlt, if_pos y0, if_pos hpl, if_pos ht.1, if_pos htl, if_pos h0, if_pos hfl, hF1, if_pos h1, if_pos hel, hE1, if_neg h2, hw]
      · refine Ev.step (fun k => ?_) (hskip (by omega))
        simp only [spec_l10Best.l4]
        rw [if_pos hlt, if_pos y0, if_pos hpl, if_pos ht.1, if_pos htl, if_pos h0, if_pos hfl, hF1, if_neg h1, hw]
    · rw [if_neg h0] at hnext
      refine Ev.step (fun k => ?_) hnext
      simp only [spec_l10Best.l4]
      rw [if_pos hlt, if_pos y0, if_pos hpl, if_pos ht.1, if_pos htl, if_neg h0, hw]
def fill0 (G : Int → Int) (i : Int) : Int → Int := fun y => if y < i then G y else 0
theorem fill0_succ {n : Nat} (G : Int → Int) {i : Int} : rowF n (upd1 (fill0 G i) i (G i)) = rowF n (fill0 G (i + 1)) := rowF_congr fun y y0 y1 => by
  unfold upd1 fill0
  by_cases e : y = i
  · rw [if_pos e, if_pos (by omega), e]
  · rw [if_neg e]
    by_cases e2 : y < i
    · rw [if_pos e2, if_pos (by omega)]
    · rw [if_neg e2, if_neg (by omega)]
theorem upd1_twice (F : Int → Int) (i x y : Int) : upd1 (upd1 F i x) i y = upd1 F i y := by
  funext j
  unfold upd1
  by_cases e : j = i
  · rw [if_pos e, if_pos e]
  · rw [if_neg e, if_neg e, if_neg e]
theorem best_l0 (hn : n ≤ 8) {nodes : Int} (hnn : nodes = n) {f t : Int} (hf : 0 ≤ f ∧ f < n) (hp : p.length = n) (hin : arcsIn p.length l) (hl : l.length ≤ 16) {Dl E : List Int} (hDl : Dl = rd_L5 T f) (hDn : Dl.length = n) {M : List (List Int)} {R : Int}
    (hR : Ev (fun k => spec_l10Best.l1 k p f t M Dl E (rowF n (far0 l p T f)) 0 nodes l) R) : Ev (fun k => spec_l10Best.l0 k p f t M Dl E (List.replicate n 0) 0 nodes l) R := by
  have e0 : List.replicate n (0 : Int) = rowF n (fill0 (far0 l p T f) ((0 : Nat) : Int)) := by
    rw [← rowF_const]
    exact rowF_congr fun y y0 y1 => by unfold fill0; rw [if_neg (by omega)]
  rw [e0]
  refine downto (P := fun i => Ev (fun k => spec_l10Best.l0 k p f t M Dl E (rowF n (fill0 (far0 l p T f) (i : Int))) (i : Int) nodes l) R) (n := n) ?_ ?_
  · have e1 : rowF n (fill0 (far0 l p T f) (n : Int)) = rowF n (far0 l p T f) := rowF_congr fun y y0 y1 => if_pos y1
    rw [e1]
    exact Ev.step (fun k => by simp only [spec_l10Best.l0]; rw [if_neg (by omega)]) hR
  · intro i hi hnext
    have e2 := fill0_succ (n := n) (far0 l p T f) (i := (i : Int))
    rw [Int.natCast_add, Int.natCast_one, ← e2] at hnext
    have hw : wrap64 ((i : Int) + 1) = (i : Int) + 1 := w64 (by omega)
    have y0 : (0 : Int) ≤ (i : Int) := Int.natCast_nonneg i
    have hset : ∀ (G : Int → Int) (x : Int), (rowF n G).set (i : Int).toNat x = rowF n (upd1 G (i : Int) x) := fun G x => rowF_put G y0 x
    by_cases h0 : rd p (i : Int) = rd p f
    · refine Ev.step (fun k => by simp only [spec_l10Best.l0]; rw [if_pos (by omega), if_pos y0, if_pos (by rw [rowF_len]; omega), Option.bind_some, if_pos (by omega), if_pos hf.1, if_pos (by omega), if_pos h0, hw, hset]) ?_
      refine Ev.bind (l10Edge_ev nodes (i : Int) l p hin (by omega)) ?_
      by_cases h1 : l.any (edgeB p (i : Int)) = true
      · rw [h1]
        refine Ev.pos rfl (Ev.pos (by omega) ?_)
        have e3 : far0 l p T f (i : Int) = rd Dl (i : Int) := by rw [hDl]; exact if_pos ⟨h0, h1⟩
        rw [hset, upd1_twice, ← e3]
        exact hnext
      · rw [Bool.eq_false_iff.2 h1]
        refine Ev.neg (by simp) ?_
        have e3 : far0 l p T f (i : Int) = 99999 := if_neg fun h => h1 h.2
        rw [← e3]
        exact hnext
    · have e3 : far0 l p T f (i : Int) = 99999 := if_neg fun h => h0 h.1
      rw [e3] at hnext
      refine Ev.step (fun k => by simp only [spec_l10Best.l0]; rw [if_pos (by omega), if_pos y0, if_pos (by rw [rowF_len]; omega), Option.bind_some, if_pos (by omega), if_pos hf.1, if_pos (by omega), if_neg h0, hw, hset]) hnext
end
theorem spec_best_ok {n f t : Int} {l : List S33} {p : List Int} (h : partOkB n l p = true) (hf : inB n f = true) (ht : inB n t = true) {D : List (List Int)} (hD : Tab n.toNat l D) : Ev (fun k => spec_l10Best.f k n l p f t) (rd (rd_L5 D f) t) := by
  have hn := part_nodes h
  have hno : netOkB n l = true := by unfold partOkB at h; simp only [Bool.and_eq_true] at h; exact h.1
  obtain ⟨T, hT, e1, e2, e3⟩ := over_both h
  have hP : Parts n.toNat l p D T := ⟨hD, hT, netOk_good hno⟩
  have hf' := (inB_iff hn.1).1 hf
  have ht' := (inB_iff hn.1).1 ht
  have hf2 : 0 ≤ f ∧ f < (n.toNat : Int) := ⟨hf'.1, by omega⟩
  have ht2 : 0 ≤ t ∧ t < (n.toNat : Int) := ⟨ht'.1, by omega⟩
  have hpl : p.length = n.toNat := by omega
  obtain ⟨k1, k2⟩ := in_all_ev h hf' (hT.row f hf2.1 hf2.2)
  obtain ⟨k3, _⟩ := in_all_ev h ht' (hT.row t ht2.1 ht2.2)
  have k4 := l1Back_ev n (l.filter (inQ p (rd p t))) (by have := List.length_filter_le (inQ p (rd p t)) l; omega)
  have hns : netOkB n ((l.filter (inQ p (rd p t))).map swapA) = true := by rw [netOk_swap]; exact netOk_filter hno _
  obtain ⟨E, k5, hE⟩ := all_dist hns ht'
  have hB : ∀ i : Int, 0 ≤ i → i < (n.toNat : Int) → rd p i = rd p t → rd E i = tabF T i t := fun i i0 i1 hi => by
    obtain ⟨D', _, hD'⟩ := all_dist (netOk_filter hno (inQ p (rd p t))) (i := i) ⟨i0, by omega⟩
    have e : D' = rd_L5 T i := by
      rw [← hi] at hD'
      exact in_dist (hT.row i i0 i1) hD'
    rw [← dist_rev hD' hE ⟨i0, i1⟩ ht2, e]
    rfl
  unfold spec_l10Best.f
  refine Ev.bind e3 (Ev.pos hf'.1 (Ev.pos (by omega) (Ev.bind k1 (Ev.bind k2 (Ev.pos ht'.1 (Ev.pos (by omega) (Ev.bind k3 (Ev.bind k4 (Ev.bind k5 (Ev.pos (by omega) (Ev.pos (by omega) ?_)))))))))))
  have hlow := far0_low hP hf2
  have hO := over_low hP hf2
  have hd0 : ∀ y : Int, 0 ≤ y → y < (n.toNat : Int) → 0 ≤ tabF D f y := fun y y0 y1 => (hD.at hf2 ⟨y0, y1⟩).2.1
  have hO2 : ∀ i y : Int, 0 ≤ i → i < (n.toNat : Int) → 0 ≤ y → y < (n.toNat : Int) → 0 ≤ overF p l T i y ∧ overF p l T i y ≤ 99999 := fun i y i0 i1 y0 y1 => by
    obtain ⟨a, b⟩ := hP.over_ge i0 i1 y0 y1
    exact ⟨Int.le_trans (hD.at ⟨i0, i1⟩ ⟨y0, y1⟩).2.1 a, b⟩
  have hrow := (hT.row f hf2.1 hf2.2).len
  refine best_l0 (T := T) (by omega) (by omega) hf2 hpl (part_arcs h) hn.2.1 rfl hrow ?_
  refine best_l1 (by omega) (by omega) hO hO2 hd0 hlow hf2 ht2 hpl hrow ?_
  have hlown := rlN_low hO hlow n.toNat
  refine (best_l4 (B := fun i => tabF T i t) (by omega) (by omega) ht2 hpl hE.len hB (fun y y0 y1 => ⟨Int.le_trans (hd0 y y0 y1) (hlown.lo y y0 y1), hlown.hi y y0 y1⟩) (fun y y0 y1 => (hT.at ⟨y0, y1⟩ ht2).2) ?_).eq (best_dist hP hf2 ht2)
  by_cases e : rd p f = rd p t
  · rw [if_pos e]; exact (hT.at hf2 ht2).2.2
  · rw [if_neg e]; exact Int.le_refl _
end Go.Proofs.Ytblpdfgplifccaa.M
