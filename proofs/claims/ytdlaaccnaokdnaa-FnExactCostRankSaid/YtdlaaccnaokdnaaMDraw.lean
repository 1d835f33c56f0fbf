/- What is drawn: each draw ends, and what it tells lies within bounds. -/
import Derived.Test.YtdlaaccnaokdnaaMRankG
import Derived.Test.YtdlaaccnaokdnaaPFSpecL30RdPick
import Derived.Test.YtdlaaccnaokdnaaGOpen
import Derived.Laws.Bits64
set_option linter.unusedVariables false
namespace Go.Proofs.Ytdlaaccnaokdnaa.M
open Go.RowKit Go.Proofs.Ytdlaaccnaokdnaa.P Go.Proofs.YtdlaaccnaokdnaaV.PrintWords Go.Proofs.YtdlaaccnaokdnaaV.PrintMore

theorem xor_nonneg {x y : Int} (hx : 0 ≤ x) (hx1 : x < 2 ^ 62) (hy : 0 ≤ y) (hy1 : y < 2 ^ 62) : 0 ≤ Go.bits .xor .i64 x y := by
  obtain ⟨a, rfl⟩ := Int.eq_ofNat_of_zero_le hx
  obtain ⟨b, rfl⟩ := Int.eq_ofNat_of_zero_le hy
  have ha : a < 2 ^ 62 := by omega
  have hb : b < 2 ^ 62 := by omega
  have ha' : a % 2 ^ (IntKind.i64).bits = a := Nat.mod_eq_of_lt (Nat.lt_of_lt_of_le ha (by decide))
  have hb' : b % 2 ^ (IntKind.i64).bits = b := Nat.mod_eq_of_lt (Nat.lt_of_lt_of_le hb (by decide))
  have hlt := Nat.xor_lt_two_pow ha hb
  have e : Go.bits .xor .i64 (a : Int) (b : Int) = ((a ^^^ b : Nat) : Int) := by
    simp only [Go.bits, BitVec.ofInt_natCast, BitVec.toNat_xor, BitVec.toNat_ofNat, ha', hb']
    rw [IntKind.wrap_i64]
    omega
  rw [e]
  omega
/-- bytes, not too many -/
def Byt (b : List Int) : Prop := (∀ x ∈ b, 0 ≤ x ∧ x ≤ 255) ∧ b.length ≤ 1048576
theorem Byt.at_ {b : List Int} (h : Byt b) (i : Int) : 0 ≤ rd b i ∧ rd b i ≤ 255 := by
  unfold rd
  rw [List.getD_eq_getElem?_getD]
  cases e : b[i.toNat]? with
  | none => exact ⟨by decide, by decide⟩
  | some x => exact h.1 x (List.mem_of_getElem? e)
theorem tmod_in {x n : Int} (h0 : 0 ≤ x) (hn : 1 ≤ n) : 0 ≤ Int.tmod x n ∧ Int.tmod x n < n := ⟨Int.tmod_nonneg _ h0, Int.tmod_lt_of_pos _ (by omega)⟩
theorem pick_ev {b : List Int} {p : Int} (n : Int) (hb : Byt b) (h0 : 0 ≤ p) (h1 : p ≤ 1000000) : ∃ r, Ev (fun k => spec_l30Rd_pick.f k b p n) (r, p + 1) ∧ (n < 1 → r = 0) ∧ (1 ≤ n → 0 ≤ r ∧ r < n) := by
  have hw : wrap64 (p + 1) = p + 1 := w64 (by omega)
  by_cases hn : n < 1
  · refine ⟨0, ?_, fun _ => rfl, fun h => by omega⟩
    unfold spec_l30Rd_pick.f
    rw [hw]
    exact Ev.pos hn (Ev.step (G := fun _ => some (0, p + 1)) (fun k => by simp only [spec_l30Rd_pick.j0]; rw [if_pos trivial]) (Ev.ret _))
  · have hL := hb.2
    by_cases hl : b.length = 0
    · refine ⟨0, ?_, fun _ => rfl, fun h => by omega⟩
      unfold spec_l30Rd_pick.f
      rw [hw, hl]
      exact Ev.neg hn (Ev.step (G := fun _ => some (0, p + 1)) (fun k => by simp only [spec_l30Rd_pick.j0]; rw [if_pos (by simp)]) (Ev.ret _))
    · have hq : wrap64 (p + 1 - 1) = p := by rw [w64 (by omega)]; omega
      have hb0 : ((b.length : Int) == 0) = false := beq_eq_false_iff_ne.mpr (by omega)
      have key : ∃ y : Int, 0 ≤ y ∧ ∀ k, spec_l30Rd_pick.j0 (k + 1) n false b (p + 1) = some (Int.tmod y n, p + 1) := by
        by_cases hp : p < (b.length : Int)
        · have hr := hb.at_ p
          refine ⟨rd b p, hr.1, fun k => ?_⟩
          simp only [spec_l30Rd_pick.j0]
          rw [if_neg (by simp), hq, if_pos hp, if_pos h0, if_neg (by omega), w64 (by omega)]
        · have t1 := tmod_in (x := p) (n := (b.length : Int)) h0 (by omega)
          have e2 : wrap64 (wrap64 (p * 7) + 3) = p * 7 + 3 := by rw [w64 (n := p * 7) (by omega), w64 (by omega)]
          have t2 := tmod_in (x := p * 7 + 3) (n := (b.length : Int)) (by omega) (by omega)
          have u := hb.at_ (Int.tmod p (b.length : Int))
          have v := hb.at_ (Int.tmod (p * 7 + 3) (b.length : Int))
          have d0 := Int.tdiv_nonneg h0 (show (0 : Int) ≤ (b.length : Int) by omega)
          have d1 : Int.tdiv p (b.length : Int) ≤ p := Int.tdiv_le_self _ h0
          refine ⟨Go.bits .xor .i64 (rd b (Int.tmod p (b.length : Int)) * 131 + rd b (Int.tmod (p * 7 + 3) (b.length : Int)) * 1117 + p * 29 + Int.tdiv p (b.length : Int) * 53) (Int.tdiv (rd b (Int.tmod p (b.length : Int)) * 131 + rd b (Int.tmod (p * 7 + 3) (b.length : Int)) * 1117 + p * 29 + Int.tdiv p (b.length : Int) * 53) 64), ?_, fun k => ?_⟩
          · generalize rd b (Int.tmod p (b.length : Int)) = x at u
            generalize rd b (Int.tmod (p * 7 + 3) (b.length : Int)) = z at v
            generalize Int.tdiv p (b.length : Int) = d at d0 d1
            have hs : 0 ≤ x * 131 + z * 1117 + p * 29 + d * 53 ∧ x * 131 + z * 1117 + p * 29 + d * 53 < 2 ^ 62 := by omega
            generalize x * 131 + z * 1117 + p * 29 + d * 53 = s at hs
            have q0 := Int.tdiv_nonneg hs.1 (show (0 : Int) ≤ 64 by omega)
            have q1 : Int.tdiv s 64 ≤ s := Int.tdiv_le_self _ hs.1
            exact xor_nonneg hs.1 hs.2 q0 (by omega)
          · simp only [spec_l30Rd_pick.j0]
            rw [if_neg (by simp), hq, e2, if_neg hp, if_neg (by omega), if_pos t1.1, if_pos t1.2, if_pos t2.1, if_pos t2.2, if_neg (by omega)]
            generalize rd b (Int.tmod p (b.length : Int)) = x at u
            generalize rd b (Int.tmod (p * 7 + 3) (b.length : Int)) = z at v
            generalize Int.tdiv p (b.length : Int) = d at d0 d1
            rw [w64 (n := x) (by omega), w64 (n := x * 131) (by omega), w64 (n := z) (by omega), w64 (n := z * 1117) (by omega), w64 (n := x * 131 + z * 1117) (by omega), w64 (n := p * 29) (by omega), w64 (n := x * 131 + z * 1117 + p * 29) (by omega), w64 (n := d) (by omega), w64 (n := d * 53) (by omega), w64 (n := x * 131 + z * 1117 + p * 29 + d * 53) (by omega)]
            have hs : 0 ≤ x * 131 + z * 1117 + p * 29 + d * 53 ∧ x * 131 + z * 1117 + p * 29 + d * 53 < 2 ^ 62 := by omega
            generalize x * 131 + z * 1117 + p * 29 + d * 53 = s at hs
            have q0 := Int.tdiv_nonneg hs.1 (show (0 : Int) ≤ 64 by omega)
            have q1 : Int.tdiv s 64 ≤ s := Int.tdiv_le_self _ hs.1
            rw [w64 (n := Int.tdiv s 64) (by omega)]
      obtain ⟨y, hy, hk⟩ := key
      refine ⟨Int.tmod y n, ?_, fun h => by omega, fun h => tmod_in hy h⟩
      unfold spec_l30Rd_pick.f
      rw [hw, hb0]
      exact Ev.neg hn (Ev.step (G := fun _ => some (Int.tmod y n, p + 1)) hk (Ev.ret _))
theorem one_ev {b : List Int} {p : Int} (l : List Int) (hb : Byt b) (h0 : 0 ≤ p) (h1 : p ≤ 1000000) (hl : 1 ≤ l.length) : ∃ r, Ev (fun k => spec_l30Rd_one.f k b p l) (r, p + 1) ∧ r ∈ l := by
  obtain ⟨r, e, _, hr⟩ := pick_ev (b := b) (p := p) (l.length : Int) hb h0 h1
  obtain ⟨r0, r1⟩ := hr (by omega)
  refine ⟨rd l r, ?_, ?_⟩
  · unfold spec_l30Rd_one.f
    exact Ev.bind e (Ev.pos r0 (Ev.pos r1 (Ev.ret _)))
  · obtain ⟨i, rfl⟩ := Int.eq_ofNat_of_zero_le r0
    rw [rd_at0 l i (by omega)]
    exact List.getElem_mem _
theorem wf_u8 {x : Int} (h : (Lit.int .u8 x).wf = true) : 0 ≤ x ∧ x ≤ 255 := by
  unfold Lit.wf at h
  simp [IntKind.min, IntKind.max, IntKind.signed, IntKind.bits] at h
  exact h
theorem open_ev {c : List Int} (hl : c.length ≤ 1048576) (hw : ∀ x ∈ c, (Lit.int .u8 x).wf = true) : ∃ b, spec_l30Open.f c = some (b, 0) ∧ Byt b := by
  unfold spec_l30Open.f
  by_cases h : (c.length : Int) > 2000
  · rw [if_pos h, if_pos (by omega)]
    exact ⟨_, rfl, fun x hx => wf_u8 (hw x (List.mem_of_mem_take hx)), by rw [List.length_take]; omega⟩
  · rw [if_neg h]
    exact ⟨_, rfl, fun x hx => wf_u8 (hw x hx), hl⟩
end Go.Proofs.Ytdlaaccnaokdnaa.M
