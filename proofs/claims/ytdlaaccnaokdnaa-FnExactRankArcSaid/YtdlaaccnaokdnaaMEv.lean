/- Loops by rounds: what they come to with rounds enough. Plain law; and the helpers of the laws' own text (eq.., mark.., held.., to..). -/
import Derived.Test.YtdlaaccnaokdnaaPx0
import Derived.Test.YtdlaaccnaokdnaaHNet
set_option linter.unusedVariables false
namespace Go.Proofs.Ytdlaaccnaokdnaa.M
open Go.RowKit Go.Proofs.Ytdlaaccnaokdnaa.P Go.Proofs.YtdlaaccnaokdnaaV.PrintWords Go.Proofs.YtdlaaccnaokdnaaV.PrintMore

/-- with rounds enough F comes to r -/
def Ev {α : Type} (F : Nat → Option α) (r : α) : Prop := ∃ k, ∀ m, k ≤ m → F m = some r
section
variable {α β : Type} {F G : Nat → Option α} {r : α}
theorem Ev.of (h : ∀ m, F m = some r) : Ev F r := ⟨0, fun m _ => h m⟩
theorem Ev.ret (r : α) : Ev (fun _ => some r) r := ⟨0, fun _ _ => rfl⟩
theorem Ev.step (h : ∀ k, F (k + 1) = G k) (hg : Ev G r) : Ev F r := by
  obtain ⟨k, hk⟩ := hg
  refine ⟨k + 1, fun m hm => ?_⟩
  obtain ⟨m, rfl⟩ : ∃ j, m = j + 1 := ⟨m - 1, by omega⟩
  rw [h]
  exact hk m (by omega)
theorem Ev.congr (h : ∀ k, F k = G k) (hg : Ev G r) : Ev F r := by
  have : F = G := funext h
  rw [this]
  exact hg
theorem Ev.bind {A : Nat → Option β} {h : Nat → β → Option α} {a : β} (hg : Ev A a) (hh : Ev (fun k => h k a) r) : Ev (fun k => (A k).bind (h k)) r := by
  obtain ⟨k1, h1⟩ := hg
  obtain ⟨k2, h2⟩ := hh
  refine ⟨k1 + k2, fun m hm => ?_⟩
  show (A m).bind (h m) = some r
  rw [h1 m (by omega)]
  exact h2 m (by omega)
theorem Ev.pos {c : Prop} [Decidable c] (hc : c) (hF : Ev F r) : Ev (fun k => if c then F k else G k) r := Ev.congr (fun k => if_pos hc) hF
theorem Ev.neg {c : Prop} [Decidable c] (hc : ¬ c) (hF : Ev G r) : Ev (fun k => if c then F k else G k) r := Ev.congr (fun k => if_neg hc) hF
theorem Ev.get (h : Ev F r) : ∃ k, F k = some r := by
  obtain ⟨k, hk⟩ := h
  exact ⟨k, hk k (Nat.le_refl _)⟩
theorem Ev.eq (h : Ev F r) {r' : α} (e : r = r') : Ev F r' := e ▸ h
end
/-- from the end down to the start -/
theorem downto {P : Nat → Prop} {n : Nat} (hend : P n) (hstep : ∀ i, i < n → P (i + 1) → P i) : P 0 := by
  have : ∀ j, j ≤ n → P (n - j) := by
    intro j
    induction j with
    | zero => exact fun _ => hend
    | succ j ih =>
      intro hj
      refine hstep _ (by omega) ?_
      rw [show n - (j + 1) + 1 = n - j from by omega]
      exact ih (by omega)
  have h := this n (Nat.le_refl _)
  rwa [Nat.sub_self] at h
theorem w64 {n : Int} (h : -9223372036854775808 ≤ n ∧ n ≤ 9223372036854775807) : wrap64 n = n := by unfold wrap64; omega
theorem w64s {n : Nat} (h : n < 9223372036854775807) : wrap64 ((n : Int) + 1) = ((n + 1 : Nat) : Int) := by unfold wrap64; omega
theorem wf_i64 {n : Int} (h : (Lit.int .i64 n).wf = true) : -9223372036854775808 ≤ n ∧ n ≤ 9223372036854775807 := by
  unfold Lit.wf at h
  simp [IntKind.min, IntKind.max, IntKind.signed, IntKind.bits] at h
  exact h
theorem rd_at0 (l : List Int) (j : Nat) (hj : j < l.length) : rd l (j : Int) = l[j] := rd_at l j hj
theorem rd120_at (l : List S103) (j : Nat) (hj : j < l.length) : rd_T103 l (j : Int) = l[j] := by
  simp [rd_T103, List.getD, hj]
end Go.Proofs.Ytdlaaccnaokdnaa.M
