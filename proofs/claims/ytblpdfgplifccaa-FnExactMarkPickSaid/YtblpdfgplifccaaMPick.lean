/- Marks, one by one: what both programs pick. -/
import Derived.Test.YtblpdfgplifccaaMTab
import Derived.Test.YtblpdfgplifccaaHPick
import Derived.Test.YtblpdfgplifccaaHWay
import Derived.Test.YtblpdfgplifccaaPFSpecMarkpick
set_option linter.unusedVariables false
namespace Go.Proofs.Ytblpdfgplifccaa.M
open Go.RowKit Go.Proofs.Ytblpdfgplifccaa.P Go.Proofs.YtblpdfgplifccaaV.PrintWords Go.Proofs.YtblpdfgplifccaaV.PrintMore

/-- every one of a list is a node -/
def Nds (n : Nat) (o : List Int) : Prop := ∀ i : Nat, i < o.length → 0 ≤ rd o (i : Int) ∧ rd o (i : Int) < n
/-- a table whose rows are long enough and hold costs -/
def Tb (n : Nat) (T : List (List Int)) : Prop := T.length = n ∧ ∀ i j : Int, 0 ≤ i → i < n → 0 ≤ j → j < n → (rdG T i).length = n ∧ 0 ≤ rd (rdG T i) j ∧ rd (rdG T i) j ≤ 99999
theorem Tab.tb {n : Nat} {l : List S33} {T : List (List Int)} (h : Tab n l T) : Tb n T := ⟨h.len, fun i j a b c d => h.at ⟨a, b⟩ ⟨c, d⟩⟩
theorem Nds.src {n : Nat} {o : List Int} (hn : 1 ≤ n) (h : Nds n o) : Nds n (srcL o) := by
  unfold srcL
  split
  · intro i hi
    have : i = 0 := by simpa using hi
    subst this
    exact ⟨Int.le_refl _, by show (0 : Int) < n; omega⟩
  · exact h
theorem srcL_len {n : Nat} {o : List Int} (hn : 1 ≤ n) (h : o.length ≤ n) : (srcL o).length ≤ n := by
  unfold srcL
  split
  · simpa using hn
  · exact h
theorem leastTo_some {n : Nat} {T : List (List Int)} {ss : List Int} {v : Int} (hT : Tb n T) (hs : Nds n ss) (h0 : 0 ≤ v) (h1 : v < n) : ∀ j, j ≤ ss.length → ∃ b, leastTo T v ss j = some b ∧ 0 ≤ b ∧ b ≤ 99999
  | 0, _ => ⟨99999, rfl, by decide, by decide⟩
  | j + 1, hj => by
    obtain ⟨b, e, b0, b1⟩ := leastTo_some hT hs h0 h1 j (by omega)
    obtain ⟨s0, s1⟩ := hs j (by omega)
    obtain ⟨r0, r1, r2⟩ := hT.2 (rd ss (j : Int)) v s0 s1 h0 h1
    refine ⟨mn b (rd (rdG T (rd ss (j : Int))) v), ?_, ?_⟩
    · unfold leastTo
      rw [e]
      simp only [Option.bind_some]
      rw [if_pos ⟨s0, by rw [hT.1]; exact s1, h0, by rw [r0]; exact h1⟩]
    · unfold mn
      split <;> omega
theorem leastV_some {n : Nat} {T : List (List Int)} {ss : List Int} {v : Int} (hT : Tb n T) (hs : Nds n ss) (h0 : 0 ≤ v) (h1 : v < n) : ∃ c, leastV T v ss = some c ∧ 0 ≤ c := by
  obtain ⟨b, e, b0, b1⟩ := leastTo_some hT hs h0 h1 ss.length (Nat.le_refl _)
  unfold leastV
  rw [e]
  refine ⟨_, rfl, ?_⟩
  split <;> omega
theorem pickN_some {n : Nat} {T : List (List Int)} {o : List Int} (hT : Tb n T) (hs : Nds n (srcL o)) : ∀ v : Nat, v ≤ n → ∃ p m, pickN T o v = some (p, m) ∧ ((p = -1 ∧ m = -1 ∧ ∀ u : Nat, u < v → o.contains (u : Int) = true) ∨ (0 ≤ p ∧ p < v ∧ o.contains p = false ∧ 0 ≤ m))
  | 0, _ => ⟨-1, -1, rfl, .inl ⟨rfl, rfl, fun u hu => absurd hu (Nat.not_lt_zero _)⟩⟩
  | v + 1, hv => by
    obtain ⟨p, m, e, hc⟩ := pickN_some hT hs v (by omega)
    obtain ⟨c, ec, c0⟩ := leastV_some (v := (v : Int)) hT hs (by omega) (by omega)
    have hE : pickN T o (v + 1) = some (if o.contains (v : Int) = false ∧ c > m then ((v : Int), c) else (p, m)) := by
      unfold pickN
      rw [e]
      simp only [Option.bind_some]
      rw [ec]
      rfl
    by_cases hg : o.contains (v : Int) = false ∧ c > m
    · rw [if_pos hg] at hE
      exact ⟨_, _, hE, .inr ⟨by omega, by omega, hg.1, c0⟩⟩
    · rw [if_neg hg] at hE
      refine ⟨_, _, hE, ?_⟩
      rcases hc with ⟨h1, h2, h3⟩ | ⟨h1, h2, h3, h4⟩
      · refine .inl ⟨h1, h2, fun u hu => ?_⟩
        by_cases hu2 : u = v
        · subst hu2
          cases hh : o.contains (u : Int) with
          | true => rfl
          | false => exact absurd ⟨hh, by omega⟩ hg
        · exact h3 u (by omega)
      · exact .inr ⟨h1, by omega, h3, h4⟩
theorem pigeons : ∀ (n : Nat) (o : List Int), (∀ u : Nat, u < n → (u : Int) ∈ o) → n ≤ o.length
  | 0, _, _ => Nat.zero_le _
  | n + 1, o, h => by
    have h1 := h n (Nat.lt_succ_self n)
    have h2 := pigeons n (o.erase (n : Int)) (fun u hu => (List.mem_erase_of_ne (by omega)).2 (h u (by omega)))
    rw [List.length_erase_of_mem h1] at h2
    have := List.length_pos_of_mem h1
    omega
/-- each of a list is a node and not among those ahead -/
def Pkd (n : Nat) (o : List Int) : Prop := ∀ i : Nat, i < o.length → 0 ≤ rd o (i : Int) ∧ rd o (i : Int) < n ∧ (o.take i).contains (rd o (i : Int)) = false
theorem outN_some {n : Nat} {T : List (List Int)} (hn : 1 ≤ n) (hT : Tb n T) : ∀ i : Nat, i ≤ n → ∃ o, outN T n i = some o ∧ o.length = i ∧ Pkd n o
  | 0, _ => ⟨[], rfl, rfl, fun i hi => absurd hi (Nat.not_lt_zero _)⟩
  | i + 1, hi => by
    obtain ⟨o, e, hl, hp⟩ := outN_some hn hT i (by omega)
    have hs : Nds n (srcL o) := Nds.src hn (fun j hj => ⟨(hp j hj).1, (hp j hj).2.1⟩)
    obtain ⟨p, m, ep, hc⟩ := pickN_some hT hs n (Nat.le_refl _)
    have hE : outN T n (i + 1) = some (o ++ [p]) := by
      unfold outN
      rw [e]
      simp only [Option.bind_some]
      rw [ep]
      rfl
    refine ⟨_, hE, by simp [hl], ?_⟩
    rcases hc with ⟨h1, h2, h3⟩ | ⟨h1, h2, h3, h4⟩
    · exfalso
      have := pigeons n o (fun u hu => List.contains_iff_mem.1 (h3 u hu))
      omega
    · intro j hj
      rw [List.length_append, List.length_singleton] at hj
      by_cases hj2 : j < o.length
      · have e1 : rd (o ++ [p]) (j : Int) = rd o (j : Int) := by
          rw [rd_at _ j (by simp; omega), rd_at _ j hj2, List.getElem_append_left hj2]
        rw [e1, List.take_append_of_le_length (by omega)]
        exact hp j hj2
      · have hj3 : j = o.length := by omega
        subst hj3
        have e1 : rd (o ++ [p]) (o.length : Int) = p := by
          rw [rd_at _ o.length (by simp)]
          simp
        rw [e1, List.take_left']
        · exact ⟨h1, h2, h3⟩
        · rfl
theorem outN_take {n : Nat} {T : List (List Int)} {i : Nat} {o : List Int} (h : outN T n (i + 1) = some o) : outN T n i = some (o.take i) := by
  obtain ⟨o', e, hl⟩ := outN_pre h i (by omega)
  unfold outN at h
  rw [e] at h
  simp only [Option.bind_some] at h
  obtain ⟨pm, _, h⟩ := Option.bind_eq_some_iff.1 h
  obtain rfl := Option.some.inj h
  rw [e, List.take_left' hl]
/-- membership, as two programs say it -/
theorem mem_loop {F : Nat → Int → Option Bool} {o : List Int} {v : Int} (ho : o.length ≤ 1000000) (hF : ∀ (k : Nat) (i : Nat), F (k + 1) (i : Int) = if (i : Int) < (o.length : Int) then (if rd o (i : Int) = v then some true else F k (wrap64 ((i : Int) + 1))) else some false) : Ev (fun k => F k 0) (o.contains v) := by
  have key : ∀ d i, i + d = o.length → (∀ j (hj : j < o.length), j < i → v ≠ o[j]) → Ev (fun k => F k (i : Int)) (o.contains v) := by
    intro d
    induction d with
    | zero =>
      intro i hi hno
      have : o.contains v = false := by
        rw [← Bool.not_eq_true, List.contains_iff_mem]
        intro hm
        obtain ⟨j, hj, he⟩ := List.getElem_of_mem hm
        exact hno j hj (by omega) he.symm
      rw [this]
      exact Ev.step (G := fun _ => some false) (fun k => by rw [hF, if_neg (by omega)]) (Ev.ret _)
    | succ d ih =>
      intro i hi hno
      have hil : i < o.length := by omega
      have hr : rd o (i : Int) = o[i] := rd_at o i hil
      by_cases hv : v = o[i]
      · have : o.contains v = true := by
          rw [List.contains_iff_mem, hv]
          exact List.getElem_mem hil
        rw [this]
        exact Ev.step (G := fun _ => some true) (fun k => by rw [hF, if_pos (by omega), hr, if_pos hv.symm]) (Ev.ret _)
      · refine Ev.step (fun k => ?_) (ih (i + 1) (by omega) (fun j hj hji => by
          by_cases e : j = i
          · subst e; exact hv
          · exact hno j hj (by omega)))
        rw [hF, if_pos (by omega), hr, if_neg (fun e => hv e.symm), w64s (by omega)]
  exact key o.length 0 (by omega) (fun j _ hj => absurd hj (Nat.not_lt_zero _))
theorem l12In_ev (o : List Int) (v : Int) (ho : o.length ≤ 1000000) : Ev (fun k => spec_l12In.f k o v) (o.contains v) :=
  mem_loop (F := fun k i => spec_l12In.l0 k o v i) ho (fun k i => by
    simp only [spec_l12In.l0]
    by_cases h : (i : Int) < (o.length : Int)
    · rw [if_pos h, if_pos h, if_pos (by omega)]
    · rw [if_neg h, if_neg h])
/-- the cost of a node from the marks, as the reference says it -/
theorem l12Way_ev {n : Nat} {l : List S33} {T : List (List Int)} {o : List Int} {v : Int} {c : Int} (hn : 1 ≤ n) (hT : Tb n T) (hA : ∀ i : Int, 0 ≤ i → i < n → Ev (fun k => spec_l3All.f k n l i) (rdG T i)) (hs : Nds n (srcL o)) (hl : (srcL o).length ≤ 1000) (h0 : 0 ≤ v) (h1 : v < n) (h : leastV T v (srcL o) = some c) : Ev (fun k => spec_l12Way.f k n l o v) c := by
  have e1 : ∀ k, spec_l12Way.f k n l o v = spec_l12Way.j0 k (srcL o) v n l := by
    intro k
    unfold spec_l12Way.f srcL
    by_cases hz : o.length = 0
    · rw [if_pos (by omega), if_pos hz]
    · rw [if_neg (by omega), if_neg hz]
  refine Ev.congr e1 ?_
  generalize srcL o = ss at hs hl h ⊢
  unfold leastV at h
  obtain ⟨b, hb, hc⟩ := Option.bind_eq_some_iff.1 h
  have hc := Option.some.inj hc
  refine Ev.step (G := fun k => spec_l12Way.l0 k ss v 99999 0 n l) (fun k => by simp only [spec_l12Way.j0]) ?_
  have hP := downto (P := fun j => ∀ b0, leastTo T v ss j = some b0 → Ev (fun k => spec_l12Way.l0 k ss v b0 (j : Int) n l) c) (n := ss.length) ?_ ?_
  · exact hP 99999 rfl
  · intro b0 e
    rw [hb] at e
    obtain rfl := Option.some.inj e
    refine Ev.step (G := fun _ => some c) (fun k => ?_) (Ev.ret _)
    simp only [spec_l12Way.l0]
    rw [if_neg (by omega), ← hc]
    split <;> rfl
  · intro j hj hnext b0 e
    obtain ⟨b2, e2, _, e3⟩ := leastTo_pre hb j hj
    rw [e] at e2
    obtain rfl := Option.some.inj e2
    obtain ⟨s0, s1⟩ := hs j hj
    obtain ⟨r0, r1, r2⟩ := hT.2 (rd ss (j : Int)) v s0 s1 h0 h1
    have hx := hnext _ e3
    refine Ev.step (G := fun k => (spec_l3All.f k n l (rd ss (j : Int))).bind fun t106 => (if 0 ≤ v then (if v < (t106.length : Int) then (if (rd t106 v) < b0 then (spec_l12Way.l0 k ss v (rd t106 v) (wrap64 ((j : Int) + 1)) n l) else (spec_l12Way.l0 k ss v b0 (wrap64 ((j : Int) + 1)) n l)) else (none)) else (none))) (fun k => by simp only [spec_l12Way.l0]; rw [if_pos (by omega), if_pos (by omega)]) ?_
    refine Ev.bind (hA _ s0 s1) (Ev.pos h0 (Ev.pos (by rw [r0]; exact h1) ?_))
    rw [w64s (by omega)]
    unfold mn at hx
    by_cases hg : rd (rdG T (rd ss (j : Int))) v < b0
    · rw [if_pos hg] at hx
      exact Ev.pos hg hx
    · rw [if_neg hg] at hx
      exact Ev.neg hg hx
/-- what is picked, of a net that is ok -/
theorem pick_ok {nodes many : Int} {l : List S33} {T : List (List Int)} (h : netOkB nodes l = true) (hm : 0 ≤ many ∧ many ≤ nodes) (e1 : Ev (fun k => impl_Net_table.f k nodes l) T) (e2 : Tab nodes.toNat l T) (e3 : ∀ i : Int, 0 ≤ i → i < nodes → Ev (fun k => spec_l3All.f k nodes l i) (rd_L5 T i)) (hL : l.length ≤ 1048576) {R : List Int} (hR : outN T nodes.toNat many.toNat = some R) : Ev (fun k => impl_MarkPick.f k nodes l many) R ∧ Ev (fun k => spec_MarkPick.f k nodes l many) R := by
  obtain ⟨n1, n2, n3⟩ := Good.nodes h
  obtain ⟨n, rfl⟩ := Int.eq_ofNat_of_zero_le (show 0 ≤ nodes by omega)
  obtain ⟨m, rfl⟩ := Int.eq_ofNat_of_zero_le hm.1
  simp only [Int.toNat_natCast] at hR e2
  constructor
  · unfold impl_MarkPick.f
    refine Ev.pos ⟨h, hm.1, hm.2⟩ (Ev.bind e1 ?_)
    simp only [Int.toNat_natCast]
    rw [hR]
    exact Ev.ret _
  · have hn : 1 ≤ n := by omega
    have hT := e2.tb
    have ok := l1Ok_netOkB (n : Int) l (by omega)
    rw [h] at ok
    have hin : spec_l1In.f (m : Int) 0 n = some true := by rw [l1In_le, decide_eq_true hm.1, decide_eq_true hm.2]; rfl
    unfold spec_MarkPick.f
    refine Ev.bind (Ev.ret _) (Ev.bind ok (Ev.pos rfl ?_))
    rw [hin]
    simp only [Option.bind_some]
    refine Ev.step (G := fun k => spec_MarkPick.l0 k m [] n l) (fun k => by simp only [spec_MarkPick.j0]; rw [if_neg (by decide)]) ?_
    have hP := downto (P := fun i => ∀ o, outN T n i = some o → Ev (fun k => spec_MarkPick.l0 k m o n l) R) (n := m) ?_ ?_
    · exact hP [] rfl
    · intro o e
      rw [hR] at e
      obtain rfl := Option.some.inj e
      obtain ⟨o', e', hl, _⟩ := outN_some hn hT m (by omega)
      rw [hR] at e'
      obtain rfl := Option.some.inj e'
      refine Ev.step (G := fun _ => some R) (fun k => ?_) (Ev.ret _)
      simp only [spec_MarkPick.l0]
      rw [if_neg (by omega)]
    · intro i hi hnext o e
      obtain ⟨o', e', hl, hp⟩ := outN_some hn hT i (by omega)
      rw [e] at e'
      obtain rfl := Option.some.inj e'
      have hs : Nds n (srcL o) := Nds.src hn (fun j hj => ⟨(hp j hj).1, (hp j hj).2.1⟩)
      have hsl : (srcL o).length ≤ n := srcL_len hn (by omega)
      obtain ⟨p, mm, ep, _⟩ := pickN_some hT hs n (Nat.le_refl _)
      have hE : outN T n (i + 1) = some (o ++ [p]) := by
        unfold outN
        rw [e]
        simp only [Option.bind_some]
        rw [ep]
        rfl
      have hx := hnext _ hE
      refine Ev.step (G := fun k => spec_MarkPick.l1 k m o (-1) (-1) 0 n l) (fun k => by simp only [spec_MarkPick.l0]; rw [if_pos (by omega)]) ?_
      have hQ := downto (P := fun v => ∀ p1 m1, pickN T o v = some (p1, m1) → Ev (fun k => spec_MarkPick.l1 k m o m1 p1 (v : Int) n l) R) (n := n) ?_ ?_
      · exact hQ (-1) (-1) rfl
      · intro p1 m1 e4
        rw [ep] at e4
        obtain ⟨rfl, rfl⟩ := Prod.mk.inj (Option.some.inj e4)
        refine Ev.step (fun k => ?_) hx
        simp only [spec_MarkPick.l1]
        rw [if_neg (by omega), if_pos (by omega)]
      · intro v hv hnx p1 m1 e4
        obtain ⟨c, ec, c0⟩ := leastV_some (v := (v : Int)) hT hs (by omega) (by omega)
        have hway := l12Way_ev (o := o) (v := (v : Int)) hn hT (fun i a b => e3 i a (by omega)) hs (by omega) (by omega) (by omega) ec
        have hE2 : pickN T o (v + 1) = some (if o.contains (v : Int) = false ∧ c > m1 then ((v : Int), c) else (p1, m1)) := by
          unfold pickN
          rw [e4]
          simp only [Option.bind_some]
          rw [ec]
          rfl
        refine Ev.step (G := fun k => (spec_l12Way.f k n l o v).bind fun t110 => ((spec_l12In.f k o v).bind fun t111 => (if t111 = true then (spec_MarkPick.l1 k m o m1 p1 (wrap64 ((v : Int) + 1)) n l) else (if t110 > m1 then (spec_MarkPick.l1 k m o t110 v (wrap64 ((v : Int) + 1)) n l) else (spec_MarkPick.l1 k m o m1 p1 (wrap64 ((v : Int) + 1)) n l))))) (fun k => by simp only [spec_MarkPick.l1]; rw [if_pos (by omega)]) ?_
        refine Ev.bind hway (Ev.bind (l12In_ev o v (by omega)) ?_)
        rw [w64s (by omega)]
        cases hb : o.contains (v : Int) with
        | true =>
          rw [hb, if_neg (by simp)] at hE2
          exact Ev.pos rfl (hnx _ _ hE2)
        | false =>
          refine Ev.neg (by decide) ?_
          by_cases hg : c > m1
          · rw [if_pos ⟨hb, hg⟩] at hE2
            exact Ev.pos hg (hnx _ _ hE2)
          · rw [if_neg (fun x => hg x.2)] at hE2
            exact Ev.neg hg (hnx _ _ hE2)
theorem pick_bad {nodes many : Int} {l : List S33} (hL : l.length ≤ 1048576) (h : ¬ (netOkB nodes l = true ∧ 0 ≤ many ∧ many ≤ nodes)) : Ev (fun k => impl_MarkPick.f k nodes l many) [] ∧ Ev (fun k => spec_MarkPick.f k nodes l many) [] := by
  constructor
  · unfold impl_MarkPick.f
    exact Ev.neg h (Ev.ret _)
  · have ok := l1Ok_netOkB nodes l (by omega)
    unfold spec_MarkPick.f
    cases hb : netOkB nodes l with
    | false =>
      rw [hb] at ok
      refine Ev.bind (Ev.ret _) (Ev.bind ok (Ev.neg (by decide) ?_))
      exact Ev.step (G := fun _ => some []) (fun k => by simp only [spec_MarkPick.j0]; rw [if_pos trivial]) (Ev.ret _)
    | true =>
      rw [hb] at ok
      refine Ev.bind (Ev.ret _) (Ev.bind ok (Ev.pos rfl ?_))
      have hin : spec_l1In.f many 0 nodes = some false := by
        rw [l1In_le, Bool.and_eq_false_iff.2]
        by_cases h0 : 0 ≤ many
        · exact .inr (decide_eq_false (fun x => h ⟨hb, h0, x⟩))
        · exact .inl (decide_eq_false h0)
      rw [hin]
      simp only [Option.bind_some]
      exact Ev.step (G := fun _ => some []) (fun k => by simp only [spec_MarkPick.j0]; rw [if_pos (by decide)]) (Ev.ret _)
theorem markPick_ev (nodes many : Int) (l : List S33) (hL : l.length ≤ 1048576) : ∃ R, Ev (fun k => impl_MarkPick.f k nodes l many) R ∧ Ev (fun k => spec_MarkPick.f k nodes l many) R ∧ R.length ≤ 8 := by
  by_cases h : netOkB nodes l = true ∧ 0 ≤ many ∧ many ≤ nodes
  · obtain ⟨n1, n2, n3⟩ := Good.nodes h.1
    obtain ⟨T, e1, e2, e3⟩ := tab_ev h.1
    obtain ⟨R, hR, hl, _⟩ := outN_some (n := nodes.toNat) (by omega) e2.tb many.toNat (by omega)
    obtain ⟨a, b⟩ := pick_ok h.1 h.2 e1 e2 (fun i x y => (e3 i x y).2) hL hR
    exact ⟨R, a, b, by omega⟩
  · obtain ⟨a, b⟩ := pick_bad hL h
    exact ⟨[], a, b, by simp⟩
end Go.Proofs.Ytblpdfgplifccaa.M
