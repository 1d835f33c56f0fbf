/- Contracts: slices.EqualFunc at rows of rows with slices.Equal, by hand; impl.sameGrid. -/
import Derived.Test.YtdlaaccnaokdnaaHUp
import Derived.Test.YtdlaaccnaokdnaaHNet
import Derived.Test.YtdlaaccnaokdnaaPFSlicesEqualIntInt
set_option linter.unusedVariables false
set_option linter.unusedSimpArgs false
namespace Go.Proofs.Ytdlaaccnaokdnaa.P
open Go.RowKit Go.Proofs.YtdlaaccnaokdnaaV.PrintWords Go.Proofs.YtdlaaccnaokdnaaV.PrintLast Go.Proofs.YtdlaaccnaokdnaaV.PrintMore
theorem equal_ints (a b : List Int) (ha : a.length ≤ 4611686018427387904) : ∃ k, slices_Equal_int_int.f k a b = some (decide (a = b)) := by
  by_cases hl : (a.length : Int) = (b.length : Int)
  rotate_left
  · refine ⟨0, ?_⟩
    unfold slices_Equal_int_int.f
    rw [if_neg hl]
    have : ¬ a = b := fun e => hl (by rw [e])
    rw [decide_eq_false this]
  have hl2 : a.length = b.length := by omega
  have key : ∀ (u i : Nat), i + u = a.length → slices_Equal_int_int.l0 (u + 1) a b (a.length : Int) (i : Int) = some (decide (a.drop i = b.drop i)) := by
    intro u
    induction u with
    | zero =>
      intro i hi
      simp only [slices_Equal_int_int.l0]
      rw [if_neg (by omega), List.drop_eq_nil_of_le (by omega), List.drop_eq_nil_of_le (by omega)]
      rfl
    | succ u ih =>
      intro i hi
      have ha1 : i < a.length := by omega
      have hb1 : i < b.length := by omega
      have hw : wrap64 ((i : Int) + 1) = ((i + 1 : Nat) : Int) := by unfold wrap64; omega
      have e1 : rd a (i : Int) = a[i] := by simp [rd, List.getD, ha1]
      have e2 : rd b (i : Int) = b[i] := by simp [rd, List.getD, hb1]
      rw [slices_Equal_int_int.l0, if_pos (by omega), if_pos (by omega), if_pos (by omega), if_pos (by omega), e1, e2, hw, List.drop_eq_getElem_cons ha1, List.drop_eq_getElem_cons hb1]
      by_cases e : a[i] = b[i]
      · rw [if_pos e, ih (i + 1) (by omega)]
        congr 1
        have : (a[i] :: a.drop (i + 1) = b[i] :: b.drop (i + 1)) ↔ (a.drop (i + 1) = b.drop (i + 1)) := ⟨fun h => (List.cons.inj h).2, fun h => by rw [e, h]⟩
        exact (decide_eq_decide.2 this).symm
      · rw [if_neg e]
        have : ¬ (a[i] :: a.drop (i + 1) = b[i] :: b.drop (i + 1)) := fun h => e (List.cons.inj h).1
        rw [decide_eq_false this]
  refine ⟨a.length + 1, ?_⟩
  unfold slices_Equal_int_int.f
  rw [if_pos hl]
  have := key a.length 0 (by omega)
  simpa using this
theorem drawn0_trans {a b c : World} (h : Drawn0 a b) (h2 : Drawn0 b c) : Drawn0 a c := by
  obtain ⟨n, rfl⟩ := h2.out
  exact h.step n
def rowsB (l : List (List Int)) : Bool := l.all fun r => decide (r.length ≤ 4611686018427387904)
def impl_sameGrid.f (l0 l1 : List (List Int)) : Option Bool := if l0.length ≤ 4611686018427387904 ∧ rowsB l0 = true then some (decide (l0 = l1)) else none
set_option maxHeartbeats 4000000 in
theorem equalFunc_rows (A0 : Option Addr) (c0 : Nat) (l0 : List (List Int)) (A1 : Option Addr) (c1 : Nat) (l1 : List (List Int)) (w : World) (hr0 : Kd.C (Kd.slice 3 (Kd.int .i64)) w A0 l0.length l0) (hc0 : l0.length ≤ c0) (hr1 : Kd.C (Kd.slice 3 (Kd.int .i64)) w A1 l1.length l1) (hc1 : l1.length ≤ c1) (hn : l0.length ≤ 4611686018427387904) (hb : rowsB l0 = true) :
    Calls Try.prog 119 #[.slice A0 l0.length c0, .slice A1 l1.length c1, .func (.func 120) #[] #[]] w fun e w' => e = .returned (.bool (decide (l0 = l1))) ∧ Drawn0 w w' := by
  have HR0 := Aside0.mk hr0
  have HR1 := Aside0.mk hr1
  have HRB := Aside0.mk hb
  clear hr0 hr1 hb hc0 hc1
  have eg := enters_of (P := Try.prog) Try.func120 (by kernel_rfl) rfl
  by_cases hl : (l0.length : Int) = (l1.length : Int)
  rotate_left
  · have hne : ¬ l0 = l1 := fun e => hl (by rw [e])
    rw [decide_eq_false hne]
    go_enter Try.func119, Try.ntmps119
    go_wp2
    go_ret
    exact ⟨rfl, Drawn0.refl w⟩
  · have hl2 : l0.length = l1.length := by omega
    have H := fun (W : World) (A A' : Option Addr) (c c' : Nat) (x y : List Int) (hx : x.length ≤ 4611686018427387904) (h1 : Kd.C (Kd.int .i64) W A x.length x) (h2 : x.length ≤ c) (h3 : Kd.C (Kd.int .i64) W A' y.length y) (h4 : y.length ≤ c') => (slices_Equal_int_int.calls _ A c x A' c' y _ W h1 h2 h3 h4 (equal_ints x y hx).choose_spec)
    have HE := Aside0.mk H
    have HL := Aside0.mk hl2
    have HN := Aside0.mk hn
    clear H hl2 hn hl
    have hln : (l1.length : Int) = (l0.length : Int) := by have := HL.out; omega
    rw [show l1.length = l0.length from HL.out.symm]
    go_enter Try.func119, Try.ntmps119
    go_wp2
    go_loopg [17] l0.length (fun gg s17 wr => ∃ i : Nat, s17 = .int .i64 (i : Int) ∧ i ≤ l0.length ∧ l0.length - i ≤ gg ∧ Aside0 (l0.take i = l1.take i) ∧ Aside0 (Drawn0 w wr))
    case atStart => exact ⟨0, rfl, Nat.zero_le _, Nat.le_refl _, ⟨rfl⟩, ⟨Drawn0.refl w⟩⟩
    case round =>
      obtain ⟨i, rfl, hin, hgg, HT, HD⟩ := hrel
      by_cases hlt : i < l0.length
      · have hltz : (i : Int) < (l0.length : Int) := by omega
        have hi1 : i < l1.length := by have := HL.out; omega
        have hltz1 : (i : Int) < (l1.length : Int) := by omega
        obtain ⟨ad0, B0, d0, e0, h0, k0, m0⟩ := at_L5 HR0.out (i : Int) (by omega) hltz
        obtain ⟨ad1, B1, d1, e1, h1, k1, m1⟩ := at_L5 HR1.out (i : Int) (by omega) hltz1
        simp only [Int.toNat_natCast] at h0 h1
        cases e0
        cases e1
        have hB := HD.out.below
        replace h0 := (hB.cell (World.block_lt_of_cell? w _ h0)).trans h0
        replace h1 := (hB.cell (World.block_lt_of_cell? w _ h1)).trans h1
        have r0 : rd_L5 l0 (i : Int) = l0[i] := by simp [rd_L5, List.getD, hlt]
        have r1 : rd_L5 l1 (i : Int) = l1[i] := by simp [rd_L5, List.getD, hi1]
        have hb : l0[i].length ≤ 4611686018427387904 := by
          have := List.all_eq_true.1 HRB.out l0[i] (List.getElem_mem hlt)
          simpa using this
        rw [r0] at h0 k0 m0
        rw [r1] at h1 k1 m1
        have hcall := HE.out wr B0 B1 d0 d1 l0[i] l1[i] hb (Kd.C_below m0 hB) k0 (Kd.C_below m1 hB) k1
        have htake : ∀ (hx : l0[i] = l1[i]), l0.take (i + 1) = l1.take (i + 1) := fun hx => by
          rw [List.take_succ_eq_append_getElem hlt, List.take_succ_eq_append_getElem hi1, HT.out, hx]
        have hne : ¬ l0[i] = l1[i] → ¬ l0 = l1 := fun hx e => hx (by subst e; rfl)
        clear r0 r1 k0 k1 m0 m1 hb hB
        generalize l0[i] = x at h0 hcall htake hne
        generalize l1[i] = y at h1 hcall htake hne
        have HTK := Aside0.mk htake
        have HNE := Aside0.mk hne
        clear htake hne
        by_cases hx : x = y
        · rw [decide_eq_true hx] at hcall
          have HX := Aside0.mk hx
          clear hx
          go_wp2_with (go_at_call 120; refine hcall.mono ?_; rintro e w' ⟨rfl, hd'⟩)
          go_roundg (l0.length - (i + 1))
          case measure => omega
          case rel =>
            have hN := HN.out
            exact ⟨i + 1, congrArg (Value.int .i64) (show wrap64 ((i : Int) + 1) = ((i + 1 : Nat) : Int) by unfold wrap64; omega), by omega, Nat.le_refl _, ⟨HTK.out HX.out⟩, ⟨drawn0_trans HD.out hd'⟩⟩
        · rw [decide_eq_false hx] at hcall
          have HX := Aside0.mk hx
          clear hx
          go_wp2_with (go_at_call 120; refine hcall.mono ?_; rintro e w' ⟨rfl, hd'⟩)
          go_ret
          exact ⟨by rw [decide_eq_false (HNE.out HX.out)]; rfl, drawn0_trans HD.out hd'⟩
      · have hltz : ¬ (i : Int) < (l0.length : Int) := by omega
        have hd : decide (i < l0.length) = false := by simp; omega
        go_wp2
        go_ret
        have e : l0 = l1 := by
          have := HT.out
          rwa [List.take_of_length_le (by omega), List.take_of_length_le (by have := HL.out; omega)] at this
        exact ⟨by rw [decide_eq_true e]; rfl, HD.out⟩
set_option maxHeartbeats 1000000 in
theorem impl_sameGrid.calls (A0 : Option Addr) (c0 : Nat) (l0 : List (List Int)) (A1 : Option Addr) (c1 : Nat) (l1 : List (List Int)) (r : Bool) (w : World) (hr0 : Kd.C (Kd.slice 3 (Kd.int .i64)) w A0 l0.length l0) (hc0 : l0.length ≤ c0) (hr1 : Kd.C (Kd.slice 3 (Kd.int .i64)) w A1 l1.length l1) (hc1 : l1.length ≤ c1) (h : impl_sameGrid.f l0 l1 = some r) :
    Calls Try.prog 86 #[.slice A0 l0.length c0, .slice A1 l1.length c1] w fun e w' => e = .returned (.bool r) ∧ Below w.heap.size w w' := by
  unfold impl_sameGrid.f at h
  by_cases hg : l0.length ≤ 4611686018427387904 ∧ rowsB l0 = true
  rotate_left
  · rw [if_neg hg] at h; cases h
  rw [if_pos hg] at h
  have e := Option.some.inj h
  have H := Aside0.mk (equalFunc_rows A0 c0 l0 A1 c1 l1 w hr0 hc0 hr1 hc1 hg.1 hg.2)
  have HE := Aside0.mk e
  clear hr0 hr1 hc0 hc1 h hg e
  go_enter Try.func86, Try.ntmps86
  go_wp2_with (go_at_call 119; refine H.out.mono ?_; rintro e w' ⟨rfl, hd⟩)
  go_ret
  exact ⟨by rw [← HE.out]; rfl, hd.below⟩
end Go.Proofs.Ytdlaaccnaokdnaa.P
