/- What the exact laws of hierarchies ask of rows of rows. -/
import Derived.Test.YtdlaaccnaokdnaaMRankK
import Derived.Test.YtdlaaccnaokdnaaMHelp
import Derived.Test.YtdlaaccnaokdnaaGRk
set_option linter.unusedVariables false
namespace Go.Proofs.Ytdlaaccnaokdnaa.P
open Go.RowKit Go.Proofs.YtdlaaccnaokdnaaV.PrintWords Go.Proofs.YtdlaaccnaokdnaaV.PrintMore
theorem rows_len {W : World} {A : Option Addr} {xs : List (List Int)} (h : Kd.C (Kd.slice 3 (Kd.int .i64)) W A xs.length xs) : ∀ y ∈ xs, y.length ≤ 9223372036854775807 := by
  intro y hy
  obtain ⟨i, hi, rfl⟩ := List.getElem_of_mem hy
  obtain ⟨ad, A0, c0, e, hx, hl, hc⟩ := at_L5 h (i : Int) (by omega) (by omega)
  have e2 : rd_L5 xs (i : Int) = xs[i] := by simp [rd_L5, List.getD, hi]
  rw [e2] at hc
  exact hc.2.1
end Go.Proofs.Ytdlaaccnaokdnaa.P
namespace Go.Proofs.Ytdlaaccnaokdnaa.M
open Go.RowKit Go.Proofs.Ytdlaaccnaokdnaa.P Go.Proofs.YtdlaaccnaokdnaaV.PrintWords Go.Proofs.YtdlaaccnaokdnaaV.PrintMore
theorem toIntSS_self {g : List (List Int)} (hg : Few g) : Ev (fun k => laws_toIntSS.f k g) g := by
  have hg1 := hg.1
  refine Ev.congr (G := fun k => laws_toIntSS.l0 k g (List.replicate g.length []) 0) (fun k => by unfold laws_toIntSS.f; rw [if_pos (by omega), if_pos (by omega), Int.toNat_natCast]) ?_
  have key : ∀ i, i ≤ g.length → (g.take i ++ List.replicate (g.length - i) []).length = g.length := fun i hi => by simp; omega
  refine downto (P := fun i => Ev (fun k => laws_toIntSS.l0 k g (g.take i ++ List.replicate (g.length - i) []) (i : Int)) g) (n := g.length) ?_ ?_
  · refine Ev.step (G := fun _ => some g) (fun k => ?_) (Ev.ret _)
    simp only [laws_toIntSS.l0]
    rw [if_neg (by omega), List.take_length, Nat.sub_self, List.replicate_zero, List.append_nil]
  · intro i hi h
    refine Ev.step (G := fun k => (laws_toIntS.f k g[i]).bind fun t105 => laws_toIntSS.l0 k g ((g.take i ++ List.replicate (g.length - i) []).set i t105) ((i + 1 : Nat) : Int)) (fun k => ?_) ?_
    · simp only [laws_toIntSS.l0]
      rw [if_pos (by omega), if_pos (by omega), rdL5_at g i hi, w64s (by omega), Int.toNat_natCast]
      congr 1
      funext t
      rw [if_pos (by rw [key i (by omega)]; omega)]
    · refine Ev.bind (toIntS_self _ (hg.2 _ (List.getElem_mem hi))) ?_
      have e : (g.take i ++ List.replicate (g.length - i) []).set i g[i] = g.take (i + 1) ++ List.replicate (g.length - (i + 1)) [] := by
        rw [show g.length - i = (g.length - (i + 1)) + 1 from by omega, List.replicate_succ, List.set_append_right _ _ (by rw [List.length_take]; omega), List.length_take, Nat.min_eq_left (by omega), Nat.sub_self, List.set_cons_zero, List.take_succ_eq_append_getElem hi, List.append_assoc]
        rfl
      rw [e]
      exact h
theorem toRank_self {o : List Int} {c v : List (List Int)} (ho : o.length ≤ 1048576) (hc : Few c) (hv : Few v) : Ev (fun k => laws_toRank.f k o c v) (o, c, v) := by
  refine Ev.congr (G := fun k => (laws_toIntS.f k o).bind fun t104 => ((laws_toIntSS.f k c).bind fun t107 => ((laws_toIntSS.f k v).bind fun t110 => (some (t104, t107, t110))))) (fun k => by unfold laws_toRank.f; rfl) ?_
  exact Ev.bind (toIntS_self o ho) (Ev.bind (toIntSS_self hc) (Ev.bind (toIntSS_self hv) (Ev.ret _)))
theorem szIntS_ev (l : List Int) (a : Int) (ha : 0 ≤ a ∧ a ≤ 1048576) (hl : l.length ≤ 9223372036854775807) : laws_szIntS.f l a = some (if (l.length : Int) ≤ a then a - l.length else -1) := by
  have hw : wrap64 (a - (l.length : Int)) = a - (l.length : Int) := by unfold wrap64; omega
  unfold laws_szIntS.f
  rw [hw]
  by_cases h : (l.length : Int) ≤ a
  · rw [if_neg (by omega), if_pos h]
  · rw [if_pos (by omega), if_neg h]
theorem szIntSS_ev (g : List (List Int)) (a : Int) (ha : 0 ≤ a ∧ a ≤ 1048576) (hl : g.length ≤ 9223372036854775807) (hr : ∀ r ∈ g, r.length ≤ 9223372036854775807) : ∃ t : Int, Ev (fun k => laws_szIntSS.f k g a) t ∧ t ≤ a ∧ (0 ≤ t → Few g) := by
  have hw : wrap64 (a - (g.length : Int)) = a - (g.length : Int) := by unfold wrap64; omega
  by_cases h : (g.length : Int) ≤ a
  rotate_left
  · refine ⟨-1, Ev.congr (G := fun _ => some (-1)) (fun k => by unfold laws_szIntSS.f; rw [hw, if_pos (by omega)]) (Ev.ret _), by omega, fun h => by omega⟩
  have key : ∀ (d i : Nat), i + d = g.length → ∀ b : Int, 0 ≤ b → b ≤ a → (∀ r ∈ g.take i, r.length ≤ 1048576) → ∃ t : Int, Ev (fun k => laws_szIntSS.l0 k g b (i : Int)) t ∧ t ≤ a ∧ (0 ≤ t → ∀ r ∈ g, r.length ≤ 1048576) := by
    intro d
    induction d with
    | zero =>
      intro i hi b h0 h1 hall
      refine ⟨b, Ev.step (G := fun _ => some b) (fun k => ?_) (Ev.ret _), h1, fun _ => ?_⟩
      · simp only [laws_szIntSS.l0]; rw [if_neg (by omega)]
      · rwa [List.take_of_length_le (by omega)] at hall
    | succ d ih =>
      intro i hi b h0 h1 hall
      have hii : i < g.length := by omega
      have hsz := szIntS_ev g[i] b ⟨h0, by omega⟩ (hr _ (List.getElem_mem hii))
      by_cases hb : (g[i].length : Int) ≤ b
      · rw [if_pos hb] at hsz
        obtain ⟨t, h2, h3, h4⟩ := ih (i + 1) (by omega) (b - g[i].length) (by omega) (by omega) (fun r hr => by
          rw [List.take_succ_eq_append_getElem hii] at hr
          rcases List.mem_append.1 hr with hr | hr
          · exact hall r hr
          · rw [List.mem_singleton.1 hr]; omega)
        refine ⟨t, Ev.step (fun k => ?_) h2, h3, h4⟩
        simp only [laws_szIntSS.l0]
        rw [if_pos (by omega), if_pos (by omega), rdL5_at g i hii, hsz, Option.bind_some, if_neg (by omega), w64s (by omega)]
      · rw [if_neg hb] at hsz
        refine ⟨-1, Ev.step (G := fun _ => some (-1)) (fun k => ?_) (Ev.ret _), by omega, fun h => by omega⟩
        simp only [laws_szIntSS.l0]
        rw [if_pos (by omega), if_pos (by omega), rdL5_at g i hii, hsz, Option.bind_some, if_pos (by omega)]
  obtain ⟨t, h2, h3, h4⟩ := key g.length 0 (by omega) (a - g.length) (by omega) (by omega) (fun r hr => by simp at hr)
  refine ⟨t, Ev.congr (fun k => by unfold laws_szIntSS.f; rw [hw, if_neg (by omega)]; rfl) h2, h3, fun h5 => ⟨by omega, h4 h5⟩⟩
theorem szRank_ev (o : List Int) (c v : List (List Int)) (a : Int) (ha : 0 ≤ a ∧ a ≤ 1048576) (ho : o.length ≤ 9223372036854775807) (hc : c.length ≤ 9223372036854775807) (hcr : ∀ r ∈ c, r.length ≤ 9223372036854775807) (hv : v.length ≤ 9223372036854775807) (hvr : ∀ r ∈ v, r.length ≤ 9223372036854775807) :
    ∃ t : Int, Ev (fun k => laws_szRank.f k o c v a) t ∧ t ≤ a ∧ (0 ≤ t → o.length ≤ 1048576 ∧ Few c ∧ Few v) := by
  have h1 := szIntS_ev o a ha ho
  by_cases ho2 : (o.length : Int) ≤ a
  rotate_left
  · rw [if_neg ho2] at h1
    exact ⟨-1, Ev.congr (G := fun _ => some (-1)) (fun k => by unfold laws_szRank.f; rw [h1, Option.bind_some, if_pos (by omega)]) (Ev.ret _), by omega, fun h => by omega⟩
  rw [if_pos ho2] at h1
  obtain ⟨t, h2, h3, h4⟩ := szIntSS_ev c (a - o.length) (by omega) hc hcr
  by_cases ht : t < 0
  · refine ⟨-1, Ev.congr (fun k => by unfold laws_szRank.f; rw [h1, Option.bind_some, if_neg (by omega)]) (Ev.bind h2 (Ev.pos ht (Ev.ret _))), by omega, fun h => by omega⟩
  obtain ⟨u, h5, h6, h7⟩ := szIntSS_ev v t (by omega) hv hvr
  by_cases hu : u < 0
  · refine ⟨-1, Ev.congr (fun k => by unfold laws_szRank.f; rw [h1, Option.bind_some, if_neg (by omega)]) (Ev.bind h2 (Ev.neg ht (Ev.bind h5 (Ev.pos hu (Ev.ret _))))), by omega, fun h => by omega⟩
  refine ⟨u, Ev.congr (fun k => by unfold laws_szRank.f; rw [h1, Option.bind_some, if_neg (by omega)]) (Ev.bind h2 (Ev.neg ht (Ev.bind h5 (Ev.neg hu (Ev.ret _))))), by omega, fun h => ⟨by omega, h4 (by omega), h7 (by omega)⟩⟩
theorem eqIntSS_self {g : List (List Int)} (hg : Few g) : Ev (fun k => laws_eqIntSS.f k g g) true := by
  have hg1 := hg.1
  refine Ev.congr (G := fun k => laws_eqIntSS.l0 k g g 0) (fun k => by unfold laws_eqIntSS.f; rw [if_pos rfl]) ?_
  refine downto (P := fun i => Ev (fun k => laws_eqIntSS.l0 k g g (i : Int)) true) (n := g.length) ?_ ?_
  · refine Ev.step (G := fun _ => some true) (fun k => ?_) (Ev.ret _)
    simp only [laws_eqIntSS.l0]
    rw [if_neg (by omega)]
  · intro i hi h
    refine Ev.step (G := fun k => (laws_eqIntS.f k (rd_L5 g (i : Int)) (rd_L5 g (i : Int))).bind fun t103 => (if t103 = true then (laws_eqIntSS.l0 k g g ((i + 1 : Nat) : Int)) else (some false))) (fun k => ?_) ?_
    · simp only [laws_eqIntSS.l0]
      rw [if_pos (by omega), if_pos (by omega), if_pos (by omega), w64s (by omega)]
    · refine Ev.bind (eqIntS_self _ ?_) (Ev.pos rfl h)
      rw [rdL5_at g i hi]
      have := hg.2 _ (List.getElem_mem hi)
      omega
theorem eqRank_self {o : List Int} {c v : List (List Int)} (ho : o.length ≤ 1048576) (hc : Few c) (hv : Few v) : Ev (fun k => laws_eqRank.f k o c v o c v) true := by
  refine Ev.congr (G := fun k => (laws_eqIntS.f k o o).bind fun t103 => (if t103 = true then ((laws_eqIntSS.f k c c).bind fun t104 => (if t104 = true then ((laws_eqIntSS.f k v v).bind fun t105 => (if t105 = true then (some true) else (some false))) else (some false))) else (some false))) (fun k => by unfold laws_eqRank.f; rfl) ?_
  exact Ev.bind (eqIntS_self o (by omega)) (Ev.pos rfl (Ev.bind (eqIntSS_self hc) (Ev.pos rfl (Ev.bind (eqIntSS_self hv) (Ev.pos rfl (Ev.ret _))))))
end Go.Proofs.Ytdlaaccnaokdnaa.M
