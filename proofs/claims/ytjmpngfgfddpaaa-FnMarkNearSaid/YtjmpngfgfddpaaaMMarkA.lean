/- What is known of marks, the program's and the specification's: one number. -/
import Derived.Test.YtjmpngfgfddpaaaMTab
import Derived.Test.YtjmpngfgfddpaaaMList
import Derived.Test.YtjmpngfgfddpaaaPFSpecL12Bound
import Derived.Test.YtjmpngfgfddpaaaPFImplBound
set_option linter.unusedVariables false
namespace Go.Proofs.Ytjmpngfgfddpaaa.M
open Go.RowKit Go.Proofs.Ytjmpngfgfddpaaa.P Go.Proofs.YtjmpngfgfddpaaaV.PrintWords Go.Proofs.YtjmpngfgfddpaaaV.PrintMore

def clampB (b : Int) : Int := if b > 49999 then 99999 else b
def upB (b u v : Int) : Int := if u = 99999 then b else mx b (v - u)
def bndStep (T : List (List Int)) (x y b m : Int) : Int := upB (upB b (rd (rd_L5 T m) x) (rd (rd_L5 T m) y)) (rd (rd_L5 T y) m) (rd (rd_L5 T x) m)
def bndRaw (T : List (List Int)) (x y : Int) (ms : List Int) : Int := ms.foldl (bndStep T x y) 0
theorem bndRaw_take (T : List (List Int)) (x y : Int) (ms : List Int) (i : Nat) (hi : i < ms.length) : bndRaw T x y (ms.take (i + 1)) = bndStep T x y (bndRaw T x y (ms.take i)) (rd ms (i : Int)) := by
  unfold bndRaw
  rw [List.take_succ_eq_append_getElem hi, List.foldl_append, rd_at0 _ i hi]
  rfl
theorem bound_ev {n : Nat} {l : List S33} {T : List (List Int)} (h : Tab n l T) (hn : n ≤ 8) {ms : List Int} (hm : ms.length ≤ 1048576) (hr : ∀ i : Nat, i < ms.length → 0 ≤ rd ms (i : Int) ∧ rd ms (i : Int) < n) {x y : Int} (hx : 0 ≤ x ∧ x < n) (hy : 0 ≤ y ∧ y < n) :
    Ev (fun k => impl_bound.f k T ms x y) (clampB (bndRaw T x y ms)) := by
  show Ev (fun k => impl_bound.l0 k T x y 0 ms ms.length 0) _
  refine downto (P := fun i => Ev (fun k => impl_bound.l0 k T x y (bndRaw T x y (ms.take i)) ms ms.length (i : Int)) (clampB (bndRaw T x y ms))) (n := ms.length) ?_ ?_
  · refine Ev.step (G := fun _ => some (clampB (bndRaw T x y ms))) (fun k => ?_) (Ev.ret _)
    simp only [impl_bound.l0]
    rw [if_neg (by omega), List.take_length]
    unfold clampB
    split <;> rfl
  · intro i hi hnext
    refine Ev.step (fun k => ?_) hnext
    rw [bndRaw_take _ _ _ _ _ hi]
    have hmi := hr i hi
    simp only [impl_bound.l0]
    generalize bndRaw T x y (ms.take i) = b
    generalize rd ms (i : Int) = m at hmi
    have hT := h.len
    obtain ⟨l1, a0, a1⟩ := h.at hmi hx
    obtain ⟨_, b0, b1⟩ := h.at hmi hy
    obtain ⟨l2, c0, c1⟩ := h.at hy hmi
    obtain ⟨l3, d0, d1⟩ := h.at hx hmi
    unfold bndStep upB
    rw [if_pos (by omega), if_pos (by omega), if_pos (by omega), if_pos hmi.1, if_pos (by omega), if_pos hx.1, if_pos (by omega), w64s (by omega)]
    by_cases hu : rd (rd_L5 T m) x = 99999
    · rw [if_pos hu, if_pos hu, if_pos hy.1, if_pos (by omega), if_pos (by omega)]
      by_cases hv : rd (rd_L5 T y) m = 99999
      · rw [if_pos hv, if_pos hv]
      · rw [if_neg hv, if_neg hv, if_pos (by omega), if_pos (by omega), w64 (by omega)]
    · rw [if_neg hu, if_neg hu, if_pos hy.1, if_pos (by omega), if_pos (by omega), if_pos (by omega), w64 (n := rd (rd_L5 T m) y - rd (rd_L5 T m) x) (by omega)]
      by_cases hv : rd (rd_L5 T y) m = 99999
      · rw [if_pos hv, if_pos hv]
      · rw [if_neg hv, if_neg hv, if_pos (by omega), if_pos (by omega), w64 (by omega)]
theorem less_ev {nodes : Int} {l : List S33} (h : netOkB nodes l = true) {T : List (List Int)} (hT : Tab nodes.toNat l T) (hs : ∀ i : Int, 0 ≤ i → i < nodes → Ev (fun k => spec_l3All.f k nodes l i) (rd_L5 T i)) {m x y : Int} (hm : 0 ≤ m ∧ m < nodes) (hx : 0 ≤ x ∧ x < nodes) (hy : 0 ≤ y ∧ y < nodes) :
    Ev (fun k => spec_l12Less.f k nodes l m x y) (clampB (bndStep T x y 0 m)) := by
  obtain ⟨n1, n2, n3⟩ := Good.nodes h
  obtain ⟨T', _, hT', hs'⟩ := tab_ev (nodes := nodes) (l := l.map swapA) (by rw [netOk_swap]; exact h)
  have hm' : 0 ≤ m ∧ m < (nodes.toNat : Int) := by omega
  have hx' : 0 ≤ x ∧ x < (nodes.toNat : Int) := by omega
  have hy' : 0 ≤ y ∧ y < (nodes.toNat : Int) := by omega
  have rx := dist_rev (hT.row x hx'.1 hx'.2) (hT'.row m hm'.1 hm'.2) hx' hm'
  have ry := dist_rev (hT.row y hy'.1 hy'.2) (hT'.row m hm'.1 hm'.2) hy' hm'
  obtain ⟨l1, a0, a1⟩ := hT.at hm' hx'
  obtain ⟨_, b0, b1⟩ := hT.at hm' hy'
  obtain ⟨_, c0, c1⟩ := hT.at hy' hm'
  obtain ⟨_, d0, d1⟩ := hT.at hx' hm'
  obtain ⟨l2, _, _⟩ := hT'.at hm' hx'
  unfold spec_l12Less.f
  refine Ev.bind (hs m hm.1 hm.2) (Ev.bind (l1Back_ev nodes l (by omega)) (Ev.bind (hs' m hm.1 hm.2).2 ?_))
  refine Ev.pos hx.1 (Ev.pos (by omega) ?_)
  unfold bndStep
  rw [rx, ry]
  rw [ry] at c0 c1
  rw [rx] at d0 d1
  clear rx ry hs hs' hT hT'
  generalize rd_L5 T m = D at *
  generalize rd_L5 T' m = B at *
  have hj2 : ∀ b : Int, 0 ≤ b → b ≤ 99999 → Ev (fun k => spec_l12Less.j1 k x y B b) (clampB (upB b (rd B y) (rd B x))) := by
    intro b hb0 hb1
    unfold upB
    refine Ev.step (G := fun k => spec_l12Less.j2 k x y B b (decide (rd B y < 99999 ∧ rd B x - rd B y > b))) (fun k => ?_) ?_
    · simp only [spec_l12Less.j1]
      rw [if_pos hy.1, if_pos (by omega)]
      by_cases hf : rd B y < 99999
      · rw [if_pos hf, if_pos hx.1, if_pos (by omega), w64 (by omega)]
        simp [hf]
      · rw [if_neg hf]
        simp [hf]
    · refine Ev.step (G := fun _ => some (clampB (if rd B y = 99999 then b else mx b (rd B x - rd B y)))) (fun k => ?_) (Ev.ret _)
      simp only [spec_l12Less.j2]
      by_cases hc : rd B y < 99999 ∧ rd B x - rd B y > b
      · rw [if_pos (by simpa using hc), if_pos hx.1, if_pos (by omega), if_pos hy.1, if_pos (by omega), w64 (by omega), if_neg (show ¬ rd B y = 99999 by omega)]
        unfold clampB mx
        rw [if_pos (show b < rd B x - rd B y by omega)]
        split <;> rfl
      · rw [if_neg (by simpa using hc)]
        unfold clampB mx
        by_cases hf : rd B y = 99999
        · rw [if_pos hf]
          split <;> rfl
        · rw [if_neg hf, if_neg (show ¬ b < rd B x - rd B y by omega)]
          split <;> rfl
  have hj0 : ∀ q : Bool, (q = true → 0 < rd D y - rd D x) → Ev (fun k => spec_l12Less.j0 k x y D B 0 q) (clampB (upB (if q = true then rd D y - rd D x else 0) (rd B y) (rd B x))) := by
    intro q hq
    cases q with
    | true =>
      have := hq rfl
      refine Ev.step (G := fun k => spec_l12Less.j1 k x y B (rd D y - rd D x)) (fun k => ?_) (hj2 _ (by omega) (by omega))
      simp only [spec_l12Less.j0, if_true]
      rw [if_pos hy.1, if_pos (by omega), if_pos hx.1, if_pos (by omega), w64 (by omega)]
    | false => exact Ev.step (G := fun k => spec_l12Less.j1 k x y B 0) (fun k => by simp only [spec_l12Less.j0]; rw [if_neg (by simp)]) (hj2 0 (by omega) (by omega))
  by_cases hf : rd D x < 99999
  · rw [w64 (n := rd D y - rd D x) (by omega)]
    refine Ev.pos hf (Ev.pos hy.1 (Ev.pos (by omega) ?_))
    refine (hj0 _ (fun h => by simpa using h)).eq ?_
    congr 2
    unfold upB mx
    rw [if_neg (show ¬ rd D x = 99999 by omega)]
    by_cases hp : rd D y - rd D x > 0
    · rw [if_pos (by simpa using hp), if_pos (show 0 < rd D y - rd D x by omega)]
    · rw [if_neg (by simpa using hp), if_neg (show ¬ 0 < rd D y - rd D x by omega)]
  · refine Ev.neg hf ?_
    refine (hj0 false (fun h => by cases h)).eq ?_
    congr 2
    unfold upB
    rw [if_pos (show rd D x = 99999 by omega)]
    rfl
theorem mx_mx {a b : Int} (h0 : a ≤ 99999) (h1 : b ≤ 99999) : clampB (mx a b) = mx (clampB a) (clampB b) := by
  unfold clampB mx
  (repeat' split) <;> omega
theorem upB_mx {b u v : Int} (hb : 0 ≤ b) {c : Int} (hc : 0 ≤ c) : upB (mx b c) u v = mx b (upB c u v) := by
  unfold upB
  split
  · rfl
  · unfold mx
    (repeat' split) <;> omega
theorem upB_bounds {b u v : Int} (hb : 0 ≤ b ∧ b ≤ 99999) (hu : 0 ≤ u) (hv : v ≤ 99999) : 0 ≤ upB b u v ∧ upB b u v ≤ 99999 := by
  unfold upB mx
  split
  · exact hb
  · split <;> omega
theorem bndStep_bounds {n : Nat} {l : List S33} {T : List (List Int)} (h : Tab n l T) {m x y b : Int} (hm : 0 ≤ m ∧ m < n) (hx : 0 ≤ x ∧ x < n) (hy : 0 ≤ y ∧ y < n) (hb : 0 ≤ b ∧ b ≤ 99999) : 0 ≤ bndStep T x y b m ∧ bndStep T x y b m ≤ 99999 := by
  unfold bndStep
  exact upB_bounds (upB_bounds hb (h.at hm hx).2.1 (h.at hm hy).2.2) (h.at hy hm).2.1 (h.at hx hm).2.2
theorem bndStep_mx (T : List (List Int)) (x y m : Int) {b : Int} (hb : 0 ≤ b) : bndStep T x y b m = mx b (bndStep T x y 0 m) := by
  unfold bndStep
  have e : b = mx b 0 := by
    unfold mx
    split <;> omega
  have e1 : upB b (rd (rd_L5 T m) x) (rd (rd_L5 T m) y) = mx b (upB 0 (rd (rd_L5 T m) x) (rd (rd_L5 T m) y)) := by
    conv => lhs; rw [e]
    exact upB_mx hb (Int.le_refl _)
  rw [e1]
  refine upB_mx hb ?_
  unfold upB mx
  split
  · exact Int.le_refl _
  · split <;> omega
theorem bndRaw_bounds {n : Nat} {l : List S33} {T : List (List Int)} (h : Tab n l T) {x y : Int} (hx : 0 ≤ x ∧ x < n) (hy : 0 ≤ y ∧ y < n) {ms : List Int} (hr : ∀ m ∈ ms, 0 ≤ m ∧ m < n) : 0 ≤ bndRaw T x y ms ∧ bndRaw T x y ms ≤ 99999 := by
  unfold bndRaw
  have : ∀ (ms : List Int), (∀ m ∈ ms, 0 ≤ m ∧ m < n) → ∀ b : Int, 0 ≤ b ∧ b ≤ 99999 → 0 ≤ ms.foldl (bndStep T x y) b ∧ ms.foldl (bndStep T x y) b ≤ 99999 := by
    intro ms
    induction ms with
    | nil => exact fun _ b hb => hb
    | cons m ms ih => exact fun hr b hb => ih (fun z hz => hr z (by simp [hz])) _ (bndStep_bounds h (hr m (by simp)) hx hy hb)
  exact this ms hr 0 ⟨by decide, by decide⟩
theorem l12Bound_ev {nodes : Int} {l : List S33} (h : netOkB nodes l = true) {T : List (List Int)} (hT : Tab nodes.toNat l T) (hs : ∀ i : Int, 0 ≤ i → i < nodes → Ev (fun k => spec_l3All.f k nodes l i) (rd_L5 T i)) {ms : List Int} (hm : ms.length ≤ 1048576) (hr : ∀ m ∈ ms, 0 ≤ m ∧ m < nodes) {x y : Int} (hx : 0 ≤ x ∧ x < nodes) (hy : 0 ≤ y ∧ y < nodes) :
    Ev (fun k => spec_l12Bound.f k nodes l ms x y) (clampB (bndRaw T x y ms)) := by
  show Ev (fun k => spec_l12Bound.l0 k ms x y 0 0 nodes l) _
  refine downto (P := fun i => Ev (fun k => spec_l12Bound.l0 k ms x y (clampB (bndRaw T x y (ms.take i))) (i : Int) nodes l) (clampB (bndRaw T x y ms))) (n := ms.length) ?_ ?_
  · refine Ev.step (G := fun _ => some (clampB (bndRaw T x y ms))) (fun k => ?_) (Ev.ret _)
    simp only [spec_l12Bound.l0]
    rw [if_neg (by omega), List.take_length]
  · intro i hi hnext
    have hmi : 0 ≤ rd ms (i : Int) ∧ rd ms (i : Int) < nodes := by
      rw [rd_at0 _ i hi]
      exact hr _ (List.getElem_mem hi)
    have hx' : 0 ≤ x ∧ x < (nodes.toNat : Int) := by omega
    have hy' : 0 ≤ y ∧ y < (nodes.toNat : Int) := by omega
    obtain ⟨b0, b1⟩ := bndRaw_bounds hT hx' hy' (ms := ms.take i) (fun m hm => by have := hr m (List.mem_of_mem_take hm); omega)
    rw [bndRaw_take _ _ _ _ _ hi, bndStep_mx _ _ _ _ b0] at hnext
    obtain ⟨c0, c1⟩ := bndStep_bounds hT (m := rd ms (i : Int)) (by omega) hx' hy' (b := 0) ⟨by decide, by decide⟩
    rw [mx_mx b1 c1] at hnext
    refine Ev.step (G := fun k => (spec_l12Less.f k nodes l (rd ms (i : Int)) x y).bind fun t103 => (if t103 > clampB (bndRaw T x y (ms.take i)) then (spec_l12Bound.l0 k ms x y t103 (wrap64 ((i : Int) + 1)) nodes l) else (spec_l12Bound.l0 k ms x y (clampB (bndRaw T x y (ms.take i))) (wrap64 ((i : Int) + 1)) nodes l))) (fun k => by simp only [spec_l12Bound.l0]; rw [if_pos (by omega), if_pos (by omega)]) ?_
    refine Ev.bind (less_ev h hT hs hmi hx hy) ?_
    rw [w64s (by omega)]
    generalize clampB (bndStep T x y 0 (rd ms (i : Int))) = c at hnext
    generalize clampB (bndRaw T x y (ms.take i)) = b at hnext
    unfold mx at hnext
    by_cases hc : c > b
    · rw [if_pos (show b < c from hc)] at hnext
      exact Ev.pos hc hnext
    · rw [if_neg (show ¬ b < c from hc)] at hnext
      exact Ev.neg hc hnext
/-- are these a net, marks and two nodes of it -/
def okMark (nodes : Int) (l : List S33) (ms : List Int) (x y : Int) : Bool := netOkB nodes l && okL nodes ms && (inB nodes x && inB nodes y)
end Go.Proofs.Ytjmpngfgfddpaaa.M
