/- Ways over a table: the program's closing of it, each node as a stop in turn; Over edge nodes alone it costs as little as any way: the program's answer is the distance. -/
import Derived.Test.YtblpdfgplifccaaMOver2
import Derived.Test.YtblpdfgplifccaaPFImplClosed
import Derived.Test.YtblpdfgplifccaaMList
set_option linter.unusedVariables false
namespace Go.Proofs.Ytblpdfgplifccaa.M
open Go.RowKit Go.Proofs.Ytblpdfgplifccaa.P Go.Proofs.YtblpdfgplifccaaV.PrintWords Go.Proofs.YtblpdfgplifccaaV.PrintMore
theorem mn_le {a b : Int} : mn a b ≤ a ∧ mn a b ≤ b := by unfold mn; split <;> omega
theorem mn_cases (a b : Int) : mn a b = a ∨ mn a b = b := by unfold mn; split <;> simp
/-- by way of m, or not -/
def fw (C : Int → Int → Int) (m : Int) : Int → Int → Int := fun a b => mn (C a b) (C a m + C m b)
/-- no less than d, no more than far, nothing from a node to itself -/
structure Cap (n : Nat) (d C : Int → Int → Int) : Prop where
  lo : ∀ a b : Int, 0 ≤ a → a < n → 0 ≤ b → b < n → d a b ≤ C a b
  nn : ∀ a b : Int, 0 ≤ a → a < n → 0 ≤ b → b < n → 0 ≤ C a b
  hi : ∀ a b : Int, 0 ≤ a → a < n → 0 ≤ b → b < n → C a b ≤ 99999
  self : ∀ a : Int, 0 ≤ a → a < n → C a a = 0
def Tri (n : Nat) (d : Int → Int → Int) : Prop := ∀ a m b : Int, 0 ≤ a → a < n → 0 ≤ m → m < n → 0 ≤ b → b < n → d a b ≤ d a m + d m b
def TriTo (n : Nat) (k : Int) (C : Int → Int → Int) : Prop := ∀ a m b : Int, 0 ≤ a → a < n → 0 ≤ m → m < k → 0 ≤ b → b < n → C a b ≤ C a m + C m b
theorem fw_cap {n : Nat} {d C : Int → Int → Int} (hd : Tri n d) (h : Cap n d C) {m : Int} (m0 : 0 ≤ m) (m1 : m < n) : Cap n d (fw C m) := by
  refine ⟨fun a b a0 a1 b0 b1 => ?_, fun a b a0 a1 b0 b1 => ?_, fun a b a0 a1 b0 b1 => ?_, fun a a0 a1 => ?_⟩
  · have h1 := h.lo a b a0 a1 b0 b1
    have h2 := h.lo a m a0 a1 m0 m1
    have h3 := h.lo m b m0 m1 b0 b1
    have h4 := hd a m b a0 a1 m0 m1 b0 b1
    rcases mn_cases (C a b) (C a m + C m b) with e | e <;> (unfold fw; omega)
  · have h1 := h.nn a b a0 a1 b0 b1
    have h2 := h.nn a m a0 a1 m0 m1
    have h3 := h.nn m b m0 m1 b0 b1
    rcases mn_cases (C a b) (C a m + C m b) with e | e <;> (unfold fw; omega)
  · have h1 := h.hi a b a0 a1 b0 b1
    have h2 := (mn_le (a := C a b) (b := C a m + C m b)).1
    unfold fw; omega
  · have h1 := h.self a a0 a1
    have h2 := h.nn a m a0 a1 m0 m1
    have h3 := h.nn m a m0 m1 a0 a1
    have h4 := (mn_le (a := C a a) (b := C a m + C m a)).1
    rcases mn_cases (C a a) (C a m + C m a) with e | e <;> (unfold fw; omega)
theorem fw_same {n : Nat} {d C : Int → Int → Int} (h : Cap n d C) {m : Int} (m0 : 0 ≤ m) (m1 : m < n) {a : Int} (a0 : 0 ≤ a) (a1 : a < n) : fw C m a m = C a m ∧ fw C m m a = C m a := by
  have h1 := h.self m m0 m1
  unfold fw mn
  constructor
  · rw [if_neg (by omega)]
  · rw [if_neg (by omega)]
theorem fw_tri {n : Nat} {d C : Int → Int → Int} (h : Cap n d C) {m : Int} (m0 : 0 ≤ m) (m1 : m < n) (ht : TriTo n m C) : TriTo n (m + 1) (fw C m) := by
  intro a i b a0 a1 i0 i1 b0 b1
  by_cases e : i = m
  · subst e
    rw [(fw_same h m0 m1 a0 a1).1, (fw_same h m0 m1 b0 b1).2]
    exact mn_le.2
  · have t1 := ht a i b a0 a1 i0 (by omega) b0 b1
    have t2 := ht m i b m0 m1 i0 (by omega) b0 b1
    have t3 := ht a i m a0 a1 i0 (by omega) m0 m1
    have n1 := h.nn m i m0 m1 i0 (by omega)
    have n2 := h.nn i m i0 (by omega) m0 m1
    have u1 := (mn_le (a := C a b) (b := C a m + C m b)).1
    have u2 := (mn_le (a := C a b) (b := C a m + C m b)).2
    show mn (C a b) (C a m + C m b) ≤ mn (C a i) (C a m + C m i) + mn (C i b) (C i m + C m b)
    rcases mn_cases (C a i) (C a m + C m i) with e1 | e1 <;> rcases mn_cases (C i b) (C i m + C m b) with e2 | e2 <;> omega
def fwN (C : Int → Int → Int) : Nat → Int → Int → Int
  | 0 => C
  | m + 1 => fw (fwN C m) (m : Int)
theorem fwN_cap {n : Nat} {d C : Int → Int → Int} (hd : Tri n d) (h : Cap n d C) : ∀ m : Nat, m ≤ n → Cap n d (fwN C m) ∧ TriTo n (m : Int) (fwN C m) ∧ ∀ a b : Int, fwN C m a b ≤ C a b
  | 0, _ => ⟨h, fun a i b _ _ i0 i1 _ _ => absurd i1 (by omega), fun a b => Int.le_refl _⟩
  | m + 1, hm => by
    obtain ⟨h1, h2, h3⟩ := fwN_cap hd h m (by omega)
    refine ⟨fw_cap hd h1 (by omega) (by omega), ?_, fun a b => ?_⟩
    · have := fw_tri h1 (m := (m : Int)) (by omega) (by omega) h2
      exact fun a i b a0 a1 i0 i1 b0 b1 => this a i b a0 a1 i0 (by omega) b0 b1
    · exact Int.le_trans mn_le.1 (h3 a b)
/-- one stop: the loops over rows and their places -/
theorem closed_l3 {n : Nat} (hn : n ≤ 8) {d C : Int → Int → Int} (h : Cap n d C) {m : Int} (m0 : 0 ≤ m) (m1 : m < n) {a : Int} (a0 : 0 ≤ a) (a1 : a < n) {R : List (List Int)}
    (hR : ∀ G, Put n (fun i _ => i < a + 1) (fw C m) C G → Ev (fun k => impl_closed.l2 k (mat n G) m n m n (wrap64 (a + 1))) R) :
    ∀ G, Put n (fun i _ => i < a) (fw C m) C G → Ev (fun k => impl_closed.l3 k (mat n G) m a n m n a n 0) R := by
  suffices H : ∀ G, Put n (fun i j => i < a ∨ (i = a ∧ j < ((0 : Nat) : Int))) (fw C m) C G → Ev (fun k => impl_closed.l3 k (mat n G) m a n m n a n ((0 : Nat) : Int)) R by
    intro G hG
    exact H G (hG.iff fun i j i0 i1 j0 j1 => by
      have : ¬ j < ((0 : Nat) : Int) := by omega
      simp only [this, and_false, or_false])
  refine downto (P := fun b => ∀ G, Put n (fun i j => i < a ∨ (i = a ∧ j < (b : Int))) (fw C m) C G → Ev (fun k => impl_closed.l3 k (mat n G) m a n m n a n (b : Int)) R) (n := n) ?_ ?_
  · intro G hG
    refine Ev.step (fun k => by simp only [impl_closed.l3]; rw [if_neg (by omega)]) (hR G (hG.iff fun i j i0 i1 j0 j1 => ?_))
    omega
  · intro b hb hnext G hG
    have same : ∀ i j : Int, 0 ≤ i → i < n → 0 ≤ j → j < n → (fw C m i j = C i j) → G i j = C i j := fun i j i0 i1 j0 j1 e => by
      obtain ⟨g1, g2⟩ := hG i j i0 i1 j0 j1
      by_cases hc : i < a ∨ (i = a ∧ j < (b : Int))
      · rw [g1 hc, e]
      · exact g2 hc
    have e1 : G a m = C a m := same a m a0 a1 m0 m1 (fw_same h m0 m1 a0 a1).1
    have e2 : G m (b : Int) = C m (b : Int) := same m b m0 m1 (by omega) (by omega) (fw_same h m0 m1 (by omega) (by omega)).2
    have e3 : G a (b : Int) = C a (b : Int) := (hG a b a0 a1 (by omega) (by omega)).2 (by omega)
    have c1 := h.nn a m a0 a1 m0 m1
    have c2 := h.nn m b m0 m1 (by omega) (by omega)
    have c3 := h.hi a b a0 a1 (by omega) (by omega)
    have c4 := h.hi a m a0 a1 m0 m1
    have c5 := h.hi m b m0 m1 (by omega) (by omega)
    have hadd : ∀ G', Put n (fun i j => (i < a ∨ (i = a ∧ j < (b : Int))) ∨ (i = a ∧ j = (b : Int))) (fw C m) C G' → Put n (fun i j => i < a ∨ (i = a ∧ j < ((b + 1 : Nat) : Int))) (fw C m) C G' := fun G' hG' => hG'.iff fun i j i0 i1 j0 j1 => by omega
    have hskip : C a (b : Int) ≤ C a m + C m (b : Int) → Ev (fun k => impl_closed.l3 k (mat n G) m a n m n a n ((b + 1 : Nat) : Int)) R := fun hle => by
      refine hnext G (hadd G ?_)
      have := hG.add a (b : Int)
      have e4 : fw C m a (b : Int) = G a (b : Int) := by
        unfold fw mn
        rw [if_neg (by omega), e3]
      rwa [e4, upd_same] at this
    by_cases h1 : C a m = 99999
    · refine Ev.step (fun k => ?_) (hskip (by omega))
      simp only [impl_closed.l3]
      rw [if_pos (by omega), if_pos a0, mat_len, if_pos a1, if_pos m0, mat_row_len G a0 a1, if_pos m1, rd_mat2 G a0 a1 m0 m1, e1, if_pos h1, w64s (by omega)]
    · by_cases h2 : C m (b : Int) = 99999
      · refine Ev.step (fun k => ?_) (hskip (by omega))
        simp only [impl_closed.l3]
        rw [if_pos (by omega), if_pos a0, mat_len, if_pos a1, if_pos m0, mat_row_len G a0 a1, if_pos m1, rd_mat2 G a0 a1 m0 m1, e1, if_neg h1, if_pos m1, if_pos (by omega), mat_row_len G m0 m1, if_pos (by omega), rd_mat2 G m0 m1 (by omega) (by omega), e2, if_pos h2, w64s (by omega)]
      · refine Ev.step (fun k => ?_) (hnext _ (hadd _ (hG.add a (b : Int))))
        simp only [impl_closed.l3]
        rw [if_pos (by omega), if_pos a0, mat_len, if_pos a1, if_pos m0, mat_row_len G a0 a1, if_pos m1, rd_mat2 G a0 a1 m0 m1, e1, if_neg h1, if_pos m1, if_pos (by omega), mat_row_len G m0 m1, if_pos (by omega), rd_mat2 G m0 m1 (by omega) (by omega), e2, if_neg h2, if_pos (by omega), rd_mat2 G a0 a1 (by omega) (by omega), e3, mat_put G a0 a1 (by omega), w64 (n := C a m + C m (b : Int)) (by omega), w64s (by omega)]
        rfl
theorem closed_l2 {n : Nat} (hn : n ≤ 8) {d C : Int → Int → Int} (h : Cap n d C) {m : Int} (m0 : 0 ≤ m) (m1 : m < n) {R : List (List Int)} (hR : Ev (fun k => impl_closed.l1 k (mat n (fw C m)) n (wrap64 (m + 1))) R) : Ev (fun k => impl_closed.l2 k (mat n C) m n m n 0) R := by
  have H : ∀ G, Put n (fun i _ => i < ((0 : Nat) : Int)) (fw C m) C G → Ev (fun k => impl_closed.l2 k (mat n G) m n m n ((0 : Nat) : Int)) R := by
    refine downto (P := fun a => ∀ G, Put n (fun i _ => i < (a : Int)) (fw C m) C G → Ev (fun k => impl_closed.l2 k (mat n G) m n m n (a : Int)) R) (n := n) ?_ ?_
    · intro G hG
      have : mat n G = mat n (fw C m) := mat_congr fun i j i0 i1 j0 j1 => (hG i j i0 i1 j0 j1).1 i1
      refine Ev.step (fun k => by simp only [impl_closed.l2]; rw [if_neg (by omega), this]) hR
    · intro a ha hnext G hG
      refine Ev.step (fun k => by simp only [impl_closed.l2]; rw [if_pos (by omega), mat_len]) ?_
      refine closed_l3 hn h m0 m1 (a := (a : Int)) (by omega) (by omega) (fun G' hG' => ?_) G hG
      rw [w64s (by omega)]
      exact hnext G' (hG'.iff fun i j _ _ _ _ => by omega)
  exact H C fun i j i0 i1 j0 j1 => ⟨fun h => absurd h (by omega), fun _ => rfl⟩
theorem closed_l1 {n : Nat} (hn : n ≤ 8) {d C : Int → Int → Int} (hd : Tri n d) (h : Cap n d C) : Ev (fun k => impl_closed.l1 k (mat n C) n 0) (mat n (fwN C n)) := by
  refine downto (P := fun m => Ev (fun k => impl_closed.l1 k (mat n (fwN C m)) n (m : Int)) (mat n (fwN C n))) (n := n) ?_ ?_
  · exact Ev.step (fun k => by simp only [impl_closed.l1]; rw [if_neg (by omega)]) (Ev.ret _)
  · intro m hm hnext
    refine Ev.step (fun k => by simp only [impl_closed.l1]; rw [if_pos (by omega), mat_len]) ?_
    refine closed_l2 hn (fwN_cap hd h m (by omega)).1 (by omega) (by omega) ?_
    rw [w64s (by omega)]
    exact hnext
def diag0 (F : Int → Int → Int) : Int → Int → Int := fun a b => if b = a then 0 else F a b
theorem closed_ev {n : Nat} (hn : n ≤ 8) {d F : Int → Int → Int} (hd : Tri n d) (h : Cap n d (diag0 F)) : Ev (fun k => impl_closed.f k (mat n F)) (mat n (fwN (diag0 F) n)) := by
  refine Ev.congr (G := fun k => impl_closed.l0 k [] (mat n F) n 0) (fun k => by
    unfold impl_closed.f
    rw [mat_len, if_pos (by omega), if_pos (by omega)]) ?_
  have hlen : ∀ i, i ≤ n → ((mat n (diag0 F)).take i).length = i := fun i hi => by rw [List.length_take, mat_len]; omega
  refine downto (P := fun i => Ev (fun k => impl_closed.l0 k ((mat n (diag0 F)).take i) (mat n F) n (i : Int)) (mat n (fwN (diag0 F) n))) (n := n) ?_ ?_
  · have e : (mat n (diag0 F)).take n = mat n (diag0 F) := List.take_of_length_le (by rw [mat_len]; exact Nat.le_refl _)
    rw [e]
    exact Ev.step (fun k => by simp only [impl_closed.l0]; rw [if_neg (by omega), mat_len]) (closed_l1 hn hd h)
  · intro i hi hnext
    have hm : i < (mat n (diag0 F)).length := by rw [mat_len]; exact hi
    rw [List.take_succ_eq_append_getElem hm] at hnext
    have e : (mat n (diag0 F))[i] = (rowF n (F (i : Int))).set i 0 := by
      have : (mat n (diag0 F))[i] = rowF n (diag0 F (i : Int)) := by simp [mat]
      rw [this, show i = ((i : Nat) : Int).toNat from rfl, rowF_put (F ((i : Int).toNat : Int)) (b := (i : Int)) (by omega) 0]
      rfl
    rw [e] at hnext
    refine Ev.step (fun k => ?_) hnext
    simp only [impl_closed.l0]
    rw [if_pos (by omega), if_pos (by omega), mat_len, if_pos (by omega), rd_mat F (by omega) (by omega)]
    unfold slices_Clone_int.f
    rw [rowF_len, if_pos (by omega), Option.bind_some, rowF_len, if_pos (by omega), hlen i (by omega), if_pos (by omega), w64s (by omega), Int.toNat_natCast]
end Go.Proofs.Ytblpdfgplifccaa.M

set_option linter.unusedVariables false
namespace Go.Proofs.Ytblpdfgplifccaa.M
open Go.RowKit Go.Proofs.Ytblpdfgplifccaa.P Go.Proofs.YtblpdfgplifccaaV.PrintWords Go.Proofs.YtblpdfgplifccaaV.PrintMore
/-- what both sides lean on: the distances, those inside parts, and what is told over edge nodes -/
structure Parts (n : Nat) (l : List S33) (p : List Int) (D T : List (List Int)) : Prop where
  d : Tab n l D
  t : Tab n (inArcs p l) T
  good : Good n l
section
variable {n : Nat} {l : List S33} {p : List Int} {D T : List (List Int)}
theorem Tab.tri (h : Tab n l D) : Tri n (tabF D) := by
  intro a m b a0 a1 m0 m1 b0 b1
  have h1 := h.at ⟨a0, a1⟩ ⟨m0, m1⟩
  have h2 := h.at ⟨m0, m1⟩ ⟨b0, b1⟩
  have h3 := h.at ⟨a0, a1⟩ ⟨b0, b1⟩
  show rd (rd_L5 D a) b ≤ rd (rd_L5 D a) m + rd (rd_L5 D m) b
  by_cases e1 : rd (rd_L5 D a) m = 99999
  · omega
  · by_cases e2 : rd (rd_L5 D m) b = 99999
    · omega
    · exact (dist_over (h.row a a0 a1) (h.row m m0 m1) ⟨m0, m1⟩ ⟨b0, b1⟩ e1 e2).2
theorem Tab.arcs (hg : Good n l) (h : Tab n l D) {a : Int} (a0 : 0 ≤ a) (a1 : a < n) {x : S33} (hx : x ∈ l) : tabF D a x.f1 ≤ tabF D a x.f0 + x.f2 := by
  obtain ⟨x0, x1, x2, x3, x4, x5⟩ := hg x hx
  have h3 := h.at ⟨a0, a1⟩ ⟨x2, x3⟩
  show rd (rd_L5 D a) x.f1 ≤ rd (rd_L5 D a) x.f0 + x.f2
  by_cases e : rd (rd_L5 D a) x.f0 = 99999
  · omega
  · exact (dist_arc hg (h.row a a0 a1) hx e).2
theorem Tab.self (h : Tab n l D) {a : Int} (a0 : 0 ≤ a) (a1 : a < n) : tabF D a a = 0 := (h.row a a0 a1).self ⟨a0, a1⟩
theorem in_good (hg : Good n l) : Good n (inArcs p l) := fun x hx => hg x (List.mem_filter.1 hx).1
theorem Parts.in_le (h : Parts n l p D T) {a b : Int} (a0 : 0 ≤ a) (a1 : a < n) (b0 : 0 ≤ b) (b1 : b < n) : tabF D a b ≤ tabF T a b :=
  dist_le (h.d.row a a0 a1) (h.t.row a a0 a1) ⟨b0, b1⟩ ⟨b0, b1⟩ fun c w => w.mono fun x hx => (List.mem_filter.1 hx).1
theorem Parts.in_part (h : Parts n l p D T) {a b : Int} (a0 : 0 ≤ a) (a1 : a < n) (b0 : 0 ≤ b) (b1 : b < n) (hf : tabF T a b ≠ 99999) : rd p b = rd p a := by
  obtain ⟨k, w⟩ := (h.t.row a a0 a1).walk b b0 b1 hf
  exact (walk_inn w).1
theorem Parts.over_ge (h : Parts n l p D T) {a b : Int} (a0 : 0 ≤ a) (a1 : a < n) (b0 : 0 ≤ b) (b1 : b < n) : tabF D a b ≤ overF p l T a b ∧ overF p l T a b ≤ 99999 := by
  unfold overF ovF
  by_cases ho : Over p (edgeP l p) a b
  · rw [if_pos ho]
    exact ⟨h.in_le a0 a1 b0 b1, (h.t.at ⟨a0, a1⟩ ⟨b0, b1⟩).2.2⟩
  · rw [if_neg ho]
    rcases arcF_val p l a b with e | ⟨x, hx, rfl, rfl, _, e⟩
    · rw [e]
      exact ⟨(h.d.at ⟨a0, a1⟩ ⟨b0, b1⟩).2.2, by omega⟩
    · rw [e]
      have := h.good x hx
      exact ⟨(h.d.row _ a0 a1).least _ _ (Walk.one hx), by omega⟩
theorem Parts.cap (h : Parts n l p D T) : Cap n (tabF D) (diag0 (overF p l T)) := by
  have hd := fun {a b : Int} (a0 : 0 ≤ a) (a1 : a < n) (b0 : 0 ≤ b) (b1 : b < n) => h.d.at ⟨a0, a1⟩ ⟨b0, b1⟩
  refine ⟨fun a b a0 a1 b0 b1 => ?_, fun a b a0 a1 b0 b1 => ?_, fun a b a0 a1 b0 b1 => ?_, fun a a0 a1 => if_pos rfl⟩
  · unfold diag0
    by_cases e : b = a
    · rw [if_pos e, e, h.d.self a0 a1]; omega
    · rw [if_neg e]; exact (h.over_ge a0 a1 b0 b1).1
  · unfold diag0
    by_cases e : b = a
    · rw [if_pos e]; omega
    · rw [if_neg e]
      have := (h.over_ge a0 a1 b0 b1).1
      have := (hd a0 a1 b0 b1).2.1
      unfold tabF at *
      omega
  · unfold diag0
    by_cases e : b = a
    · rw [if_pos e]; omega
    · rw [if_neg e]; exact (h.over_ge a0 a1 b0 b1).2
/-- an arc between parts, and its ends -/
theorem cut_ends {x : S33} (hx : x ∈ l) (hc : rd p x.f0 ≠ rd p x.f1) : edgeP l p x.f0 = true ∧ edgeP l p x.f1 = true :=
  ⟨List.any_eq_true.2 ⟨x, hx, by simp [edgeB, hc]⟩, List.any_eq_true.2 ⟨x, hx, by simp [edgeB, hc]⟩⟩
theorem over_arc {x : S33} (hx : x ∈ l) (hc : rd p x.f0 ≠ rd p x.f1) : overF p l T x.f0 x.f1 ≤ x.f2 := by
  unfold overF ovF
  rw [if_neg fun h1 => hc h1.2.1]
  exact arcF_le p l far2 x hx hc
/-- the closed table -/
structure Clo (n : Nat) (l : List S33) (p : List Int) (D T : List (List Int)) (C : Int → Int → Int) : Prop where
  cap : Cap n (tabF D) C
  tri : Tri n C
  le : ∀ a b : Int, 0 ≤ a → a < n → 0 ≤ b → b < n → C a b ≤ diag0 (overF p l T) a b
theorem Parts.clo (h : Parts n l p D T) : Clo n l p D T (fwN (diag0 (overF p l T)) n) := by
  obtain ⟨h1, h2, h3⟩ := fwN_cap h.d.tri h.cap n (Nat.le_refl _)
  exact ⟨h1, h2, fun a b _ _ _ _ => h3 a b⟩
theorem Clo.in_le {C : Int → Int → Int} (h : Parts n l p D T) (hC : Clo n l p D T C) {a b : Int} (a0 : 0 ≤ a) (a1 : a < n) (b0 : 0 ≤ b) (b1 : b < n) (ha : edgeP l p a = true) (hb : edgeP l p b = true) : C a b ≤ tabF T a b := by
  have h1 := hC.le a b a0 a1 b0 b1
  have h2 := hC.cap.hi a b a0 a1 b0 b1
  have h3 : 0 ≤ tabF T a b ∧ tabF T a b ≤ 99999 := (h.t.at ⟨a0, a1⟩ ⟨b0, b1⟩).2
  by_cases e : tabF T a b = 99999
  · omega
  · unfold diag0 at h1
    by_cases e2 : b = a
    · rw [if_pos e2] at h1
      omega
    · rw [if_neg e2] at h1
      unfold overF ovF at h1
      rwa [if_pos ⟨fun h => e2 h.symm, (h.in_part a0 a1 b0 b1 e).symm, ha, hb⟩] at h1
/-- each walk is no cheaper than one within, or one over two edge nodes -/
theorem walk_over {C : Int → Int → Int} (h : Parts n l p D T) (hC : Clo n l p D T C) {f : Int} (f0 : 0 ≤ f) (f1 : f < n) {k : Nat} {y c : Int} (w : WalkN l f k y c) : (0 ≤ y ∧ y < n) ∧ (tabF T f y ≤ c ∨ ∃ a b : Int, (0 ≤ a ∧ a < n) ∧ (0 ≤ b ∧ b < n) ∧ edgeP l p a = true ∧ edgeP l p b = true ∧ tabF T f a + C a b + tabF T b y ≤ c) := by
  induction w with
  | nil => exact ⟨⟨f0, f1⟩, .inl (by rw [h.t.self f0 f1]; omega)⟩
  | snoc w hx ih =>
    rename_i x k c
    obtain ⟨x0, x1, x2, x3, x4, x5⟩ := h.good x hx
    refine ⟨⟨x2, x3⟩, ?_⟩
    by_cases hc : rd p x.f0 = rd p x.f1
    · have hin : x ∈ inArcs p l := List.mem_filter.2 ⟨hx, by simp [cutB, hc]⟩
      have ha := fun {a : Int} (a0 : 0 ≤ a) (a1 : a < n) => h.t.arcs (in_good h.good) a0 a1 hin
      rcases ih.2 with h1 | ⟨a, b, ⟨a0, a1⟩, ⟨b0, b1⟩, e1, e2, h1⟩
      · have := ha f0 f1
        exact .inl (by omega)
      · have := ha b0 b1
        exact .inr ⟨a, b, ⟨a0, a1⟩, ⟨b0, b1⟩, e1, e2, by omega⟩
    · obtain ⟨c1, c2⟩ := cut_ends hx hc
      have hne : x.f1 ≠ x.f0 := fun e => hc (by rw [e])
      have hCx : C x.f0 x.f1 ≤ x.f2 := by
        have := hC.le x.f0 x.f1 x0 x1 x2 x3
        unfold diag0 at this
        rw [if_neg hne] at this
        have := over_arc (T := T) hx hc
        omega
      have hs := h.t.self x2 x3
      rcases ih.2 with h1 | ⟨a, b, ⟨a0, a1⟩, ⟨b0, b1⟩, e1, e2, h1⟩
      · exact .inr ⟨x.f0, x.f1, ⟨x0, x1⟩, ⟨x2, x3⟩, c1, c2, by omega⟩
      · have t1 := hC.in_le h b0 b1 x0 x1 e2 c1
        have t2 := hC.tri a b x.f0 a0 a1 b0 b1 x0 x1
        have t3 := hC.tri a x.f0 x.f1 a0 a1 x0 x1 x2 x3
        exact .inr ⟨a, x.f1, ⟨a0, a1⟩, ⟨x2, x3⟩, e1, c2, by omega⟩
end
end Go.Proofs.Ytblpdfgplifccaa.M
