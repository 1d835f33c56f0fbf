/- Who is within reach, the program's and the specification's: one list. -/
import Derived.Test.YtjmpngfgfddpaaaMTab
import Derived.Test.YtjmpngfgfddpaaaMList
import Derived.Test.YtjmpngfgfddpaaaPFSpecReachin
import Derived.Test.YtjmpngfgfddpaaaPFImplReachin
set_option linter.unusedVariables false
namespace Go.Proofs.Ytjmpngfgfddpaaa.M
open Go.RowKit Go.Proofs.Ytjmpngfgfddpaaa.P Go.Proofs.YtjmpngfgfddpaaaV.PrintWords Go.Proofs.YtjmpngfgfddpaaaV.PrintMore

def inL (D : List Int) (b : Int) : Nat → List Int
  | 0 => []
  | i + 1 => if rd D (i : Int) < 99999 ∧ rd D (i : Int) ≤ b then inL D b i ++ [(i : Int)] else inL D b i
theorem inL_succ (D : List Int) (b : Int) (i : Nat) : inL D b (i + 1) = if rd D (i : Int) < 99999 ∧ rd D (i : Int) ≤ b then inL D b i ++ [(i : Int)] else inL D b i := rfl
theorem inL_len (D : List Int) (b : Int) : ∀ i : Nat, (inL D b i).length ≤ i
  | 0 => Nat.le_refl 0
  | i + 1 => by
    have := inL_len D b i
    unfold inL
    split <;> simp <;> omega
theorem inL_more (D : List Int) {b c : Int} (h : b ≤ c) : ∀ i : Nat, (inL D b i).length ≤ (inL D c i).length
  | 0 => Nat.le_refl 0
  | i + 1 => by
    have := inL_more D h i
    unfold inL
    by_cases h1 : rd D (i : Int) < 99999 ∧ rd D (i : Int) ≤ b
    · rw [if_pos h1, if_pos ⟨h1.1, by omega⟩]
      simp
      exact this
    · rw [if_neg h1]
      split
      · simp
        omega
      · exact this
theorem inL_mem (D : List Int) (b : Int) (v : Nat) : ∀ i : Nat, (v : Int) ∈ inL D b i ↔ v < i ∧ rd D (v : Int) < 99999 ∧ rd D (v : Int) ≤ b
  | 0 => by simp [inL]
  | i + 1 => by
    have ih := inL_mem D b v i
    unfold inL
    by_cases h1 : rd D (i : Int) < 99999 ∧ rd D (i : Int) ≤ b
    · rw [if_pos h1, List.mem_append, ih, List.mem_singleton]
      constructor
      · rintro (⟨a, c, d⟩ | e)
        · exact ⟨by omega, c, d⟩
        · have : v = i := by omega
          subst this
          exact ⟨by omega, h1.1, h1.2⟩
      · rintro ⟨a, c, d⟩
        by_cases hv : v = i
        · right
          omega
        · left
          exact ⟨by omega, c, d⟩
    · rw [if_neg h1, ih]
      constructor
      · rintro ⟨a, c, d⟩
        exact ⟨by omega, c, d⟩
      · rintro ⟨a, c, d⟩
        by_cases hv : v = i
        · subst hv
          exact absurd ⟨c, d⟩ h1
        · exact ⟨by omega, c, d⟩
theorem impl_in_ev {n : Nat} {D : List Int} (b : Int) (hD : D.length = n) (hn : n ≤ 8) (hf : ∀ i : Nat, i < n → rd D (i : Int) ≤ 99999) : Ev (fun k => impl_ReachIn.l0 k b [] D D.length 0) (inL D b n) := by
  subst hD
  refine downto (P := fun i => Ev (fun k => impl_ReachIn.l0 k b (inL D b i) D D.length (i : Int)) (inL D b D.length)) (n := D.length) ?_ ?_
  · refine Ev.step (G := fun _ => some (inL D b D.length)) (fun k => ?_) (Ev.ret _)
    simp only [impl_ReachIn.l0]
    rw [if_neg (by omega)]
  · intro i hi h
    have hfi := hf i hi
    have hl := inL_len D b i
    rw [inL_succ] at h
    refine Ev.step (fun k => ?_) h
    simp only [impl_ReachIn.l0, impl_reached.f]
    rw [if_pos (by omega), if_pos (by omega), if_pos (by omega), w64s (by omega)]
    by_cases h1 : rd D (i : Int) = 99999
    · rw [if_pos h1, Option.bind_some, if_neg (by simp), if_neg (by omega)]
    · rw [if_neg h1, Option.bind_some]
      by_cases h2 : rd D (i : Int) ≤ b
      · rw [if_pos (by simpa using h2), if_pos (by omega), if_pos ⟨by omega, h2⟩]
      · rw [if_neg (by simpa using h2), if_neg (by omega)]
theorem spec_in_ev {n : Nat} {D : List Int} (b : Int) (l : List S33) (hD : D.length = n) (hn : n ≤ 8) (hf : ∀ i : Nat, i < n → rd D (i : Int) ≤ 99999) : Ev (fun k => spec_ReachIn.l0 k b [] D 0 n l) (inL D b n) := by
  subst hD
  refine downto (P := fun i => Ev (fun k => spec_ReachIn.l0 k b (inL D b i) D (i : Int) D.length l) (inL D b D.length)) (n := D.length) ?_ ?_
  · refine Ev.step (G := fun _ => some (inL D b D.length)) (fun k => ?_) (Ev.ret _)
    simp only [spec_ReachIn.l0]
    rw [if_neg (by omega)]
  · intro i hi h
    have hfi := hf i hi
    have hl := inL_len D b i
    rw [inL_succ] at h
    refine Ev.step (fun k => ?_) h
    simp only [spec_ReachIn.l0]
    rw [if_pos (by omega), if_pos (by omega), if_pos (by omega), w64s (by omega)]
    by_cases h1 : rd D (i : Int) < 99999
    · rw [if_pos h1]
      by_cases h2 : rd D (i : Int) ≤ b
      · rw [if_pos h2, if_pos (by omega), if_pos ⟨h1, h2⟩]
      · rw [if_neg h2, if_neg (by omega)]
    · rw [if_neg h1, if_neg (by omega)]
theorem nodesIn_val (nodes s : Int) (l : List S33) : impl_nodesIn.f nodes l [s] = some (netOkB nodes l && inB nodes s) := by
  unfold impl_nodesIn.f impl_NetOk.f impl_Net_has.f
  cases netOkB nodes l <;> simp
theorem reachIn_ok {nodes s : Int} {l : List S33} {D : List Int} (h : netOkB nodes l = true) (hs : inB nodes s = true) (b : Int) (hI : Ev (fun k => impl_Net_from.f k nodes l s) D) (hS : Ev (fun k => spec_l3All.f k nodes l s) D) (hD : IsDist nodes.toNat l s D) :
    Ev (fun k => impl_ReachIn.f k nodes l s b) (inL D b nodes.toNat) ∧ Ev (fun k => spec_ReachIn.f k nodes l s b) (inL D b nodes.toNat) := by
  obtain ⟨n1, n2, n3⟩ := Good.nodes h
  obtain ⟨n, rfl⟩ := Int.eq_ofNat_of_zero_le (show 0 ≤ nodes by omega)
  simp only [Int.toNat_natCast] at hD ⊢
  have hf : ∀ i : Nat, i < n → rd D (i : Int) ≤ 99999 := fun i hi => (hD.leFar (y := (i : Int)) (by omega) (by omega)).2.1
  constructor
  · unfold impl_ReachIn.f
    rw [nodesIn_val, h, hs]
    simp only [Option.bind_some, Bool.and_self, if_true]
    refine Ev.pos (by omega) (Ev.pos (by omega) (Ev.bind hI ?_))
    exact impl_in_ev b hD.len (by omega) hf
  · unfold spec_ReachIn.f
    simp only [l1In_inB, Option.bind_some, hs]
    refine Ev.bind (l1Ok_netOkB _ l (by omega)) (Ev.pos h ?_)
    refine Ev.step (fun k => by simp only [spec_ReachIn.j0]; rfl) (Ev.neg (by simp) (Ev.bind hS ?_))
    exact spec_in_ev b l hD.len (by omega) hf
theorem reachIn_bad {nodes s : Int} {l : List S33} (hl : l.length ≤ 1048576) (b : Int) (h : (netOkB nodes l && inB nodes s) = false) : Ev (fun k => impl_ReachIn.f k nodes l s b) [] ∧ Ev (fun k => spec_ReachIn.f k nodes l s b) [] := by
  have hj : Ev (fun k => spec_ReachIn.j0 k s b [] true nodes l) [] := Ev.step (G := fun _ => some []) (fun k => by simp [spec_ReachIn.j0]) (Ev.ret _)
  constructor
  · unfold impl_ReachIn.f
    rw [nodesIn_val, h]
    exact Ev.ret _
  · unfold spec_ReachIn.f
    simp only [l1In_inB, Option.bind_some]
    refine Ev.bind (l1Ok_netOkB nodes l (by omega)) ?_
    by_cases h1 : netOkB nodes l = true
    · rw [h1, Bool.true_and] at h
      refine Ev.pos h1 ?_
      rw [h]
      exact hj
    · exact Ev.neg h1 hj
end Go.Proofs.Ytjmpngfgfddpaaa.M
