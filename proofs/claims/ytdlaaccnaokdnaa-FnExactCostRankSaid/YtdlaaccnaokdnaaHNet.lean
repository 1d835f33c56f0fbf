/- Contracts of the functions of the net that hand function values on: slices.IndexFunc and ContainsFunc at arcs and at numbers, (Net).has, NetOk. -/
import Derived.Test.YtdlaaccnaokdnaaPx0
import Derived.Test.YtdlaaccnaokdnaaGBase
import Derived.Shelf.Abstract
set_option linter.unusedVariables false
namespace Go.Proofs.Ytdlaaccnaokdnaa.P
open Go.RowKit Go.Proofs.YtdlaaccnaokdnaaV.PrintWords Go.Proofs.YtdlaaccnaokdnaaV.PrintLast Go.Proofs.YtdlaaccnaokdnaaV.PrintMore

/-- where the first element lies of which q holds; -1, if there is none -/
def idxOf {α : Type} (q : α → Bool) (l : List α) : Int := match l.findIdx? q with
  | some i => (i : Int)
  | none => -1
theorem idxOf_hit {α : Type} {q : α → Bool} {l : List α} {i : Nat} (hi : i < l.length) (hq : q l[i] = true) (h : ∀ j (hj : j < l.length), j < i → q l[j] = false) : idxOf q l = i := by
  have : l.findIdx? q = some i := by
    rw [List.findIdx?_eq_some_iff_getElem]
    exact ⟨hi, hq, fun j hj => by simp [h j (by omega) hj]⟩
  simp [idxOf, this]
theorem idxOf_miss {α : Type} {q : α → Bool} {l : List α} (h : ∀ j (hj : j < l.length), q l[j] = false) : idxOf q l = -1 := by
  have : l.findIdx? q = none := by
    rw [List.findIdx?_eq_none_iff]
    intro x hx
    obtain ⟨j, hj, rfl⟩ := List.getElem_of_mem hx
    exact h j hj
  simp [idxOf, this]
theorem idxOf_any {α : Type} (q : α → Bool) (l : List α) : decide (idxOf q l ≥ 0) = l.any q := by
  unfold idxOf
  cases h : l.findIdx? q with
  | none =>
    rw [List.findIdx?_eq_none_iff] at h
    simp
    exact fun x hx => by simpa using h x hx
  | some i =>
    obtain ⟨hi, hq, _⟩ := List.findIdx?_eq_some_iff_getElem.1 h
    simp
    exact ⟨_, List.getElem_mem hi, hq⟩
theorem rd_T61_at (l : List S61) (j : Nat) (hj : j < l.length) : rd_T61 l (j : Int) = l[j] := by
  unfold rd_T61
  rw [Int.toNat_natCast, List.getD_eq_getElem?_getD, List.getElem?_eq_getElem hj]; rfl
theorem rd_at (l : List Int) (j : Nat) (hj : j < l.length) : rd l (j : Int) = l[j] := by
  unfold rd
  rw [Int.toNat_natCast, List.getD_eq_getElem?_getD, List.getElem?_eq_getElem hj]; rfl

set_option maxHeartbeats 2000000 in
set_option maxRecDepth 100000 in
theorem indexFunc_arc (q : S61 → Bool) (g : Nat) (lb : Array Value) (eg : ∀ args w, (callFunc g args).run Try.prog w = .ok (.enter g args) w)
    (A : Option Addr) (c : Nat) (l : List S61) (w : World) (hr : Kd.C k61 w A l.length l)
    (hp : ∀ (W : World) (x : S61), x ∈ l → Below w.heap.size w W → Calls Try.prog g (#[.agg #[.int .i64 x.f0, .int .i64 x.f1, .int .i64 x.f2, .int .i64 x.f3, .int .i64 x.f4]] ++ lb) W fun e w' => e = .returned (.bool (q x)) ∧ Below W.heap.size W w') :
    Calls Try.prog 100 #[.slice A l.length c, .func (.func g) #[] lb] w fun e w' => e = .returned (.int .i64 (idxOf q l)) ∧ Below w.heap.size w w' := by
  have hm : l.length ≤ 9223372036854775807 := hr.2.1
  have HR := Aside0.mk hr
  clear hr
  have HP := Aside0.mk hp
  clear hp
  have hu := Try.underlying61
  go_enter Try.func100, Try.ntmps100
  go_wp2
  go_loopg [5, 8] l.length (fun gg _ s8 wr => ∃ kk : Nat, kk ≤ l.length ∧ l.length - kk ≤ gg ∧ s8 = .int .i64 kk ∧ Aside0 (Below w.heap.size w wr) ∧ Aside0 (∀ j (hj : j < l.length), j < kk → q l[j] = false))
  case atStart => exact ⟨0, Nat.zero_le _, by omega, rfl, ⟨Below.refl _ w⟩, ⟨fun j _ hj => absurd hj (Nat.not_lt_zero _)⟩⟩
  case round =>
    obtain ⟨kk, hkk, hg, rfl, BW, AA⟩ := hrel
    by_cases hlt : kk < l.length
    · have hltz : (kk : Int) < (l.length : Int) := by omega
      obtain ⟨ad, e1, h0, h1, h2, h3, h4⟩ := at_T61 HR.out (kk : Int) (by omega) hltz
      simp only [Int.toNat_natCast] at h0 h1 h2 h3 h4
      cases e1
      replace h0 := (BW.out.cell (World.block_lt_of_cell? w _ h0)).trans h0
      replace h1 := (BW.out.cell (World.block_lt_of_cell? w _ h1)).trans h1
      replace h2 := (BW.out.cell (World.block_lt_of_cell? w _ h2)).trans h2
      replace h3 := (BW.out.cell (World.block_lt_of_cell? w _ h3)).trans h3
      replace h4 := (BW.out.cell (World.block_lt_of_cell? w _ h4)).trans h4
      have hcall := HP.out wr l[kk] (List.getElem_mem hlt) BW.out
      rw [rd_T61_at l kk hlt] at h0 h1 h2 h3 h4
      generalize hy : l[kk] = y at h0 h1 h2 h3 h4 hcall
      have B : Aside0 (l[kk] = y) := ⟨hy⟩
      clear hy
      cases hq : q y with
      | true =>
        rw [hq] at hcall
        go_wp2_with (go_at_fn g; refine hcall.mono ?_; rintro e w' ⟨rfl, hb'⟩)
        go_ret
        refine ⟨?_, BW.out.trans (hb'.mono BW.out.size)⟩
        rw [idxOf_hit hlt (by rw [B.out]; exact hq) AA.out]; rfl
      | false =>
        rw [hq] at hcall
        go_wp2_with (go_at_fn g; refine hcall.mono ?_; rintro e w' ⟨rfl, hb'⟩)
        go_roundg (l.length - (kk + 1))
        case measure => omega
        case rel =>
          refine ⟨kk + 1, by omega, by omega, by go_num, ⟨BW.out.trans (hb'.mono BW.out.size)⟩, ⟨fun j hj hjk => ?_⟩⟩
          by_cases e : j = kk
          · subst e
            rw [B.out]; exact hq
          · exact AA.out j hj (by omega)
    · have hltz : ¬ (kk : Int) < (l.length : Int) := by omega
      have hd : decide (kk < l.length) = false := by simp; omega
      go_wp2
      go_ret
      refine ⟨?_, BW.out⟩
      rw [idxOf_miss (fun j hj => AA.out j hj (by omega))]; rfl
set_option maxHeartbeats 2000000 in
set_option maxRecDepth 100000 in
theorem indexFunc_int (q : Int → Bool) (g : Nat) (lb : Array Value) (eg : ∀ args w, (callFunc g args).run Try.prog w = .ok (.enter g args) w)
    (A : Option Addr) (c : Nat) (l : List Int) (w : World) (hr : Kd.C (Kd.int .i64) w A l.length l)
    (hp : ∀ (W : World) (x : Int), x ∈ l → Below w.heap.size w W → Calls Try.prog g (#[.int .i64 x] ++ lb) W fun e w' => e = .returned (.bool (q x)) ∧ Below W.heap.size W w') :
    Calls Try.prog 124 #[.slice A l.length c, .func (.func g) #[] lb] w fun e w' => e = .returned (.int .i64 (idxOf q l)) ∧ Below w.heap.size w w' := by
  have hm : l.length ≤ 9223372036854775807 := hr.2.1
  have HR := Aside0.mk hr
  clear hr
  have HP := Aside0.mk hp
  clear hp
  go_enter Try.func124, Try.ntmps124
  go_wp2
  go_loopg [5, 8] l.length (fun gg _ s8 wr => ∃ kk : Nat, kk ≤ l.length ∧ l.length - kk ≤ gg ∧ s8 = .int .i64 kk ∧ Aside0 (Below w.heap.size w wr) ∧ Aside0 (∀ j (hj : j < l.length), j < kk → q l[j] = false))
  case atStart => exact ⟨0, Nat.zero_le _, by omega, rfl, ⟨Below.refl _ w⟩, ⟨fun j _ hj => absurd hj (Nat.not_lt_zero _)⟩⟩
  case round =>
    obtain ⟨kk, hkk, hg, rfl, BW, AA⟩ := hrel
    by_cases hlt : kk < l.length
    · have hltz : (kk : Int) < (l.length : Int) := by omega
      obtain ⟨ad, e1, h0⟩ := Kd.at_int HR.out (kk : Int) (by omega) hltz
      simp only [Int.toNat_natCast] at h0
      cases e1
      replace h0 := (BW.out.cell (World.block_lt_of_cell? w _ h0)).trans h0
      have hcall := HP.out wr l[kk] (List.getElem_mem hlt) BW.out
      rw [rd_at l kk hlt] at h0
      generalize hy : l[kk] = y at h0 hcall
      have B : Aside0 (l[kk] = y) := ⟨hy⟩
      clear hy
      cases hq : q y with
      | true =>
        rw [hq] at hcall
        go_wp2_with (go_at_fn g; refine hcall.mono ?_; rintro e w' ⟨rfl, hb'⟩)
        go_ret
        refine ⟨?_, BW.out.trans (hb'.mono BW.out.size)⟩
        rw [idxOf_hit hlt (by rw [B.out]; exact hq) AA.out]; rfl
      | false =>
        rw [hq] at hcall
        go_wp2_with (go_at_fn g; refine hcall.mono ?_; rintro e w' ⟨rfl, hb'⟩)
        go_roundg (l.length - (kk + 1))
        case measure => omega
        case rel =>
          refine ⟨kk + 1, by omega, by omega, by go_num, ⟨BW.out.trans (hb'.mono BW.out.size)⟩, ⟨fun j hj hjk => ?_⟩⟩
          by_cases e : j = kk
          · subst e
            rw [B.out]; exact hq
          · exact AA.out j hj (by omega)
    · have hltz : ¬ (kk : Int) < (l.length : Int) := by omega
      have hd : decide (kk < l.length) = false := by simp; omega
      go_wp2
      go_ret
      refine ⟨?_, BW.out⟩
      rw [idxOf_miss (fun j hj => AA.out j hj (by omega))]; rfl

set_option maxHeartbeats 1000000 in
theorem containsFunc_arc (q : S61 → Bool) (g : Nat) (lb : Array Value) (eg : ∀ args w, (callFunc g args).run Try.prog w = .ok (.enter g args) w)
    (A : Option Addr) (c : Nat) (l : List S61) (w : World) (hr : Kd.C k61 w A l.length l)
    (hp : ∀ (W : World) (x : S61), x ∈ l → Below w.heap.size w W → Calls Try.prog g (#[.agg #[.int .i64 x.f0, .int .i64 x.f1, .int .i64 x.f2, .int .i64 x.f3, .int .i64 x.f4]] ++ lb) W fun e w' => e = .returned (.bool (q x)) ∧ Below W.heap.size W w') :
    Calls Try.prog 112 #[.slice A l.length c, .func (.func g) #[] lb] w fun e w' => e = .returned (.bool (l.any q)) ∧ Below w.heap.size w w' := by
  have H := Aside0.mk (indexFunc_arc q g lb eg A c l w hr hp)
  have hq := Aside0.mk (idxOf_any q l)
  clear hr hp
  go_enter Try.func112, Try.ntmps112
  go_wp2_with (go_at_call 100; refine H.out.mono ?_; rintro e w' ⟨rfl, hb⟩)
  go_ret
  exact ⟨by rw [← hq.out]; rfl, hb⟩

set_option maxHeartbeats 1000000 in
theorem containsFunc_int (q : Int → Bool) (g : Nat) (lb : Array Value) (eg : ∀ args w, (callFunc g args).run Try.prog w = .ok (.enter g args) w)
    (A : Option Addr) (c : Nat) (l : List Int) (w : World) (hr : Kd.C (Kd.int .i64) w A l.length l)
    (hp : ∀ (W : World) (x : Int), x ∈ l → Below w.heap.size w W → Calls Try.prog g (#[.int .i64 x] ++ lb) W fun e w' => e = .returned (.bool (q x)) ∧ Below W.heap.size W w') :
    Calls Try.prog 94 #[.slice A l.length c, .func (.func g) #[] lb] w fun e w' => e = .returned (.bool (l.any q)) ∧ Below w.heap.size w w' := by
  have H := Aside0.mk (indexFunc_int q g lb eg A c l w hr hp)
  have hq := Aside0.mk (idxOf_any q l)
  clear hr hp
  go_enter Try.func94, Try.ntmps94
  go_wp2_with (go_at_call 124; refine H.out.mono ?_; rintro e w' ⟨rfl, hb⟩)
  go_ret
  exact ⟨by rw [← hq.out]; rfl, hb⟩

/-- is a number a node -/
def inB (nodes v : Int) : Bool := decide (0 ≤ v) && decide (v ≤ wrap64 (nodes - 1))
theorem within_inB (nodes v : Int) : impl_within.f v 0 (wrap64 (nodes - 1)) = some (inB nodes v) := by
  unfold impl_within.f inB
  by_cases h : v ≥ 0
  · rw [if_pos h]; simp [h]
  · rw [if_neg h]
    have : ¬ (0 ≤ v) := h
    simp [this]
set_option maxHeartbeats 1000000 in
theorem has1_calls (nodes v : Int) (g : Nat) (W : World) (hc : W.cell? ⟨g, 0, none⟩ = some (.int .i64 nodes)) :
    Calls Try.prog 95 #[.int .i64 v, .pointer (some ⟨g, 0, none⟩)] W fun e w' => e = .returned (.bool (!inB nodes v)) ∧ Below W.heap.size W w' := by
  have H := Aside0.mk (fun (W : World) => impl_within.calls v 0 (wrap64 (nodes - 1)) (inB nodes v) W (within_inB nodes v))
  go_enter Try.func95, Try.ntmps95
  go_wp2_with (go_at_call 96; refine (H.out _).mono ?_; rintro e w' ⟨rfl, hd⟩)
  go_ret
  exact ⟨rfl, hd.below⟩
set_option maxHeartbeats 1000000 in
theorem has_any (nodes : Int) (A1 : Option Addr) (n1 c1 : Nat) (A : Option Addr) (c : Nat) (l : List Int) (w : World) (hr : Kd.C (Kd.int .i64) w A l.length l) :
    Calls Try.prog 56 #[.agg #[.int .i64 nodes, .slice A1 n1 c1], .slice A l.length c] w fun e w' => e = .returned (.bool (l.all (inB nodes))) ∧ Below w.heap.size w w' := by
  have eg : ∀ args w, (callFunc 95 args).run Try.prog w = .ok (.enter 95 args) w := enters_of Try.func95 (by kernel_rfl) rfl
  have H := Aside0.mk (containsFunc_int (fun v => !inB nodes v) 95 #[.pointer (some ⟨w.heap.size, 0, none⟩)] eg A c l (w.alloc (.cells #[.int .i64 nodes, .slice A1 n1 c1] 35)) (Kd.C_below hr (below_alloc (Below.refl _ _) _))
    (fun W x _ hb => has1_calls nodes x w.heap.size W (by rw [hb.cell (p := ⟨w.heap.size, 0, none⟩) (by simp)]; simp)))
  have hq : Aside0 ((!l.any fun v => !inB nodes v) = l.all (inB nodes)) := ⟨by rw [List.all_eq_not_any_not]⟩
  clear hr eg
  go_enter Try.func56, Try.ntmps56
  go_wp2_with (go_at_call 94; refine H.out.mono ?_; rintro e w' ⟨rfl, hb⟩)
  go_ret
  exact ⟨by rw [← hq.out]; rfl, ((Below.refl _ w).alloc (Nat.le_refl _) _).trans (hb.mono (by simp))⟩
def impl_Net_has.f (a0_0 : Int) (l0_1 : List S61) (l1 : List Int) : Option (Bool) := some (l1.all (inB a0_0))
theorem impl_Net_has.calls (a0_0 : Int) (A0_1 : Option Addr) (c0_1 : Nat) (l0_1 : List (S61)) (A1 : Option Addr) (c1 : Nat) (l1 : List Int) (r : Bool) (w : World) (hr0_1 : Kd.C k61 w A0_1 l0_1.length l0_1) (hc0_1 : l0_1.length ≤ c0_1) (hr1 : Kd.C (Kd.int .i64) w A1 l1.length l1) (hc1 : l1.length ≤ c1) (h : impl_Net_has.f a0_0 l0_1 l1 = some r) :
    Calls Try.prog 56 #[.agg #[.int .i64 a0_0, .slice A0_1 l0_1.length c0_1], .slice A1 l1.length c1] w fun e w' => e = .returned (.bool r) ∧ Below w.heap.size w w' := by
  obtain rfl := Option.some.inj h
  exact has_any a0_0 A0_1 l0_1.length c0_1 A1 c1 l1 w hr1

theorem bcell {W w1 : World} (hb : Below W.heap.size W w1) : (∀ b o, b < W.heap.size → w1.cell? ⟨b, o, none⟩ = W.cell? ⟨b, o, none⟩) ∧ (∀ b o, b < W.heap.size → w1.frozen? ⟨b, o, none⟩ = W.frozen? ⟨b, o, none⟩) :=
  ⟨fun b o h => hb.cell (p := ⟨b, o, none⟩) h, fun b o h => hb.frozen (p := ⟨b, o, none⟩) h⟩
theorem C_two {w : World} {g : Nat} {a b : Int} (h0 : w.cell? ⟨g, 0, none⟩ = some (.int .i64 a)) (h1 : w.cell? ⟨g, 1, none⟩ = some (.int .i64 b)) : Kd.C (Kd.int .i64) w (some ⟨g, 0, none⟩) 2 [a, b] := by
  refine ⟨rfl, by omega, fun _ => ⟨⟨g, 0, none⟩, rfl, fun j p hj => ?_⟩⟩
  have hz : (Kd.int .i64).sz = 1 := rfl
  match j, hj with
  | 0, hj =>
    have e : a = p := by simpa using hj
    subst e
    refine ⟨[.int .i64 a], rfl, rfl, fun i u hu => ?_⟩
    match i, hu with
    | 0, hu =>
      have e : Value.int .i64 a = u := by simpa using hu
      subst e
      simpa [Addr.add] using h0
  | 1, hj =>
    have e : b = p := by simpa using hj
    subst e
    refine ⟨[.int .i64 b], rfl, rfl, fun i u hu => ?_⟩
    match i, hu with
    | 0, hu =>
      have e : Value.int .i64 b = u := by simpa using hu
      subst e
      simpa [Addr.add, hz] using h1
def costB (n : Int) : Bool := decide (0 ≤ n) && decide (n ≤ 99)
def loadB (n : Int) : Bool := decide (0 ≤ n) && decide (n ≤ 9)
theorem within_le (n lo hi : Int) : impl_within.f n lo hi = some (decide (lo ≤ n) && decide (n ≤ hi)) := by
  unfold impl_within.f
  by_cases h : n ≥ lo
  · rw [if_pos h]
    have : lo ≤ n := h
    simp [this]
  · rw [if_neg h]
    have : ¬ (lo ≤ n) := h
    simp [this]
theorem costOk_costB (n : Int) : impl_costOk.f n = some (costB n) := by
  unfold impl_costOk.f
  rw [within_le]
  rfl
/-- is an arc not as it should be -/
def badArc (nodes : Int) (x : S61) : Bool := !(inB nodes x.f0 && inB nodes x.f1) || (x.f0 == x.f1) || !costB x.f2 || !costB x.f3 || !loadB x.f4
set_option maxHeartbeats 4000000 in
theorem NetOk1_calls (nodes : Int) (A : Option Addr) (n c : Nat) (g : Nat) (x : S61) (W : World) (hg : g < W.heap.size) (hc0 : W.cell? ⟨g, 0, none⟩ = some (.int .i64 nodes)) (hc1 : W.cell? ⟨g, 1, none⟩ = some (.slice A n c)) :
    Calls Try.prog 113 #[.agg #[.int .i64 x.f0, .int .i64 x.f1, .int .i64 x.f2, .int .i64 x.f3, .int .i64 x.f4], .pointer (some ⟨g, 0, none⟩)] W fun e w' => e = .returned (.bool (badArc nodes x)) ∧ Below W.heap.size W w' := by
  obtain ⟨x0, x1, x2, x3, x4⟩ := x
  dsimp only [badArc]
  have H : Aside0 (∀ (W' : World), Kd.C (Kd.int .i64) W' (some ⟨W.heap.size + 1, 0, none⟩) 2 [x0, x1] → Calls Try.prog 56 #[.agg #[.int .i64 nodes, .slice A n c], .slice (some ⟨W.heap.size + 1, 0, none⟩) 2 2] W' fun e w' => e = .returned (.bool (inB nodes x0 && inB nodes x1)) ∧ Below W'.heap.size W' w') :=
    ⟨fun W' hr => (has_any nodes A n c (some ⟨W.heap.size + 1, 0, none⟩) 2 [x0, x1] W' hr).mono fun e w' h => by simpa using h⟩
  have H2 := Aside0.mk (fun (W : World) => impl_costOk.calls x2 (costB x2) W (costOk_costB x2))
  have H3 := Aside0.mk (fun (W : World) => impl_costOk.calls x3 (costB x3) W (costOk_costB x3))
  have H4 := Aside0.mk (fun (W : World) => impl_within.calls x4 0 9 (loadB x4) W (within_le x4 0 9))
  have hhz : W.heap.size < W.heap.size + 1 + 1 := by omega
  generalize (inB nodes x0 && inB nodes x1) = b1 at H ⊢
  generalize costB x2 = b2 at H2 ⊢
  generalize costB x3 = b3 at H3 ⊢
  generalize loadB x4 = b4 at H4 ⊢
  have fin : ∀ (w1 w2 : World), Below (W.heap.size + 1 + 1) ((W.alloc (.cells #[.int .i64 x0, .int .i64 x1, .int .i64 x2, .int .i64 x3, .int .i64 x4] 61)).alloc (.cells #[.int .i64 x0, .int .i64 x1] 3)) w1 → Below w1.heap.size w1 w2 → Below W.heap.size W w2 := fun w1 w2 h1 h2 =>
    ((((Below.refl _ W).alloc (Nat.le_refl _) _).alloc (by simp) _).trans (h1.mono (by omega))).trans (h2.mono (by have := h1.size; simp at this; omega))
  have FIN := Aside0.mk fin
  clear fin
  cases b1 with
  | false =>
    go_enter Try.func113, Try.ntmps113
    go_wp2_with (go_at_call 56; refine (H.out _ (C_two (by simp) (by simp))).mono ?_; rintro e w1 ⟨rfl, hb1⟩)
    go_ret
    exact ⟨by simp, FIN.out _ _ (by simpa using hb1) (Below.refl _ _)⟩
  | true =>
    by_cases he : x0 = x1
    · subst he
      have he' : (x0 == x0) = true := by simp
      go_enter Try.func113, Try.ntmps113
      go_wp2_with (first | (go_at_call 56; refine (H.out _ (C_two (by simp) (by simp))).mono ?_; rintro e w1 ⟨rfl, hb1⟩; have HB1 := Aside0.mk hb1; obtain ⟨hcc, hff⟩ := bcell hb1; clear hb1) | (go_at_call 105; (with_reducible refine (H2.out _).mono ?_); rintro e w' ⟨rfl, ⟨nd, rfl⟩⟩) | (go_at_call 105; (with_reducible refine (H3.out _).mono ?_); rintro e w' ⟨rfl, ⟨nd, rfl⟩⟩) | (go_at_call 96; (with_reducible refine (H4.out _).mono ?_); rintro e w' ⟨rfl, ⟨nd, rfl⟩⟩))
      go_ret
      exact ⟨by first | (simp; done) | simp [he], FIN.out _ _ (by simpa using HB1.out) (by repeat (first | exact Below.refl _ _ | apply pw_below_drewN | apply below_drew1))⟩
    · have he' : (x0 == x1) = false := by simpa using he
      cases b2 with
      | false =>
        go_enter Try.func113, Try.ntmps113
        go_wp2_with (first | (go_at_call 56; refine (H.out _ (C_two (by simp) (by simp))).mono ?_; rintro e w1 ⟨rfl, hb1⟩; have HB1 := Aside0.mk hb1; obtain ⟨hcc, hff⟩ := bcell hb1; clear hb1) | (go_at_call 105; (with_reducible refine (H2.out _).mono ?_); rintro e w' ⟨rfl, ⟨nd, rfl⟩⟩) | (go_at_call 105; (with_reducible refine (H3.out _).mono ?_); rintro e w' ⟨rfl, ⟨nd, rfl⟩⟩) | (go_at_call 96; (with_reducible refine (H4.out _).mono ?_); rintro e w' ⟨rfl, ⟨nd, rfl⟩⟩))
        go_ret
        exact ⟨by first | (simp; done) | simp [he], FIN.out _ _ (by simpa using HB1.out) (by repeat (first | exact Below.refl _ _ | apply pw_below_drewN | apply below_drew1))⟩
      | true =>
        cases b3 with
        | false =>
          go_enter Try.func113, Try.ntmps113
          go_wp2_with (first | (go_at_call 56; refine (H.out _ (C_two (by simp) (by simp))).mono ?_; rintro e w1 ⟨rfl, hb1⟩; have HB1 := Aside0.mk hb1; obtain ⟨hcc, hff⟩ := bcell hb1; clear hb1) | (go_at_call 105; (with_reducible refine (H2.out _).mono ?_); rintro e w' ⟨rfl, ⟨nd, rfl⟩⟩) | (go_at_call 105; (with_reducible refine (H3.out _).mono ?_); rintro e w' ⟨rfl, ⟨nd, rfl⟩⟩) | (go_at_call 96; (with_reducible refine (H4.out _).mono ?_); rintro e w' ⟨rfl, ⟨nd, rfl⟩⟩))
          go_ret
          exact ⟨by first | (simp; done) | simp [he], FIN.out _ _ (by simpa using HB1.out) (by repeat (first | exact Below.refl _ _ | apply pw_below_drewN | apply below_drew1))⟩
        | true =>
          cases b4 with
          | false =>
            go_enter Try.func113, Try.ntmps113
            go_wp2_with (first | (go_at_call 56; refine (H.out _ (C_two (by simp) (by simp))).mono ?_; rintro e w1 ⟨rfl, hb1⟩; have HB1 := Aside0.mk hb1; obtain ⟨hcc, hff⟩ := bcell hb1; clear hb1) | (go_at_call 105; (with_reducible refine (H2.out _).mono ?_); rintro e w' ⟨rfl, ⟨nd, rfl⟩⟩) | (go_at_call 105; (with_reducible refine (H3.out _).mono ?_); rintro e w' ⟨rfl, ⟨nd, rfl⟩⟩) | (go_at_call 96; (with_reducible refine (H4.out _).mono ?_); rintro e w' ⟨rfl, ⟨nd, rfl⟩⟩))
            go_ret
            exact ⟨by first | (simp; done) | simp [he], FIN.out _ _ (by simpa using HB1.out) (by repeat (first | exact Below.refl _ _ | apply pw_below_drewN | apply below_drew1))⟩
          | true =>
            go_enter Try.func113, Try.ntmps113
            go_wp2_with (first | (go_at_call 56; refine (H.out _ (C_two (by simp) (by simp))).mono ?_; rintro e w1 ⟨rfl, hb1⟩; have HB1 := Aside0.mk hb1; obtain ⟨hcc, hff⟩ := bcell hb1; clear hb1) | (go_at_call 105; (with_reducible refine (H2.out _).mono ?_); rintro e w' ⟨rfl, ⟨nd, rfl⟩⟩) | (go_at_call 105; (with_reducible refine (H3.out _).mono ?_); rintro e w' ⟨rfl, ⟨nd, rfl⟩⟩) | (go_at_call 96; (with_reducible refine (H4.out _).mono ?_); rintro e w' ⟨rfl, ⟨nd, rfl⟩⟩))
            go_ret
            exact ⟨by first | (simp; done) | simp [he], FIN.out _ _ (by simpa using HB1.out) (by repeat (first | exact Below.refl _ _ | apply pw_below_drewN | apply below_drew1))⟩
/-- is a net one -/
def netOkB (nodes : Int) (l : List S61) : Bool := (decide (1 ≤ nodes) && decide (nodes ≤ 8)) && decide (l.length ≤ 16) && !(l.any (badArc nodes))
def impl_NetOk.f (a0_0 : Int) (l0_1 : List (S61)) : Option (Bool) := some (netOkB a0_0 l0_1)
set_option maxHeartbeats 4000000 in
set_option maxRecDepth 100000 in
theorem impl_NetOk.calls (a0_0 : Int) (A0_1 : Option Addr) (c0_1 : Nat) (l0_1 : List (S61)) (r : Bool) (w : World) (hr0_1 : Kd.C k61 w A0_1 l0_1.length l0_1) (hc0_1 : l0_1.length ≤ c0_1) (h : impl_NetOk.f a0_0 l0_1 = some r) :
    Calls Try.prog 79 #[.agg #[.int .i64 a0_0, .slice A0_1 l0_1.length c0_1]] w fun e w' => e = .returned (.bool r) ∧ Below w.heap.size w w' := by
  obtain rfl := Option.some.inj h
  clear h
  unfold netOkB
  have eg : ∀ args w, (callFunc 113 args).run Try.prog w = .ok (.enter 113 args) w := enters_of Try.func113 (by kernel_rfl) rfl
  have H1 := Aside0.mk (fun (W : World) => impl_within.calls a0_0 1 8 (decide (1 ≤ a0_0) && decide (a0_0 ≤ 8)) W (within_le a0_0 1 8))
  have H : Aside0 (∀ nd, Calls Try.prog 112 #[.slice A0_1 l0_1.length c0_1, .func (.func 113) #[] #[.pointer (some ⟨w.heap.size, 0, none⟩)]] ((w.alloc (.cells #[.int .i64 a0_0, .slice A0_1 l0_1.length c0_1] 35)).drewN nd) fun e w' => e = .returned (.bool (l0_1.any (badArc a0_0))) ∧ Below (w.heap.size + 1) ((w.alloc (.cells #[.int .i64 a0_0, .slice A0_1 l0_1.length c0_1] 35)).drewN nd) w') :=
    ⟨fun nd => (containsFunc_arc (badArc a0_0) 113 #[.pointer (some ⟨w.heap.size, 0, none⟩)] eg A0_1 c0_1 l0_1 _ (Kd.C_below hr0_1 (pw_below_drewN (below_alloc (Below.refl _ _) _) nd)) (fun W x _ hb => by
      have hbb : ∀ o, W.cell? ⟨w.heap.size, o, none⟩ = (w.alloc (.cells #[.int .i64 a0_0, .slice A0_1 l0_1.length c0_1] 35)).cell? ⟨w.heap.size, o, none⟩ := fun o => (hb.cell (p := ⟨w.heap.size, o, none⟩) (by simp)).trans (by simp)
      exact NetOk1_calls a0_0 A0_1 l0_1.length c0_1 w.heap.size x W (by have := hb.size; simp at this; omega) (by rw [hbb]; simp) (by rw [hbb]; simp))).mono fun e w' h => by simpa using h⟩
  clear hr0_1 eg
  generalize (decide (1 ≤ a0_0) && decide (a0_0 ≤ 8)) = b1 at H1 ⊢
  generalize l0_1.any (badArc a0_0) = b3 at H ⊢
  cases b1 with
  | false =>
    go_enter Try.func79, Try.ntmps79
    go_wp2_with (first | (go_at_call 96; (with_reducible refine (H1.out _).mono ?_); rintro e w' ⟨rfl, ⟨nd, rfl⟩⟩) | (go_at_call 112; refine (H.out _).mono ?_; rintro e w' ⟨rfl, hb⟩; have HB := Aside0.mk hb; clear hb))
    go_ret
    exact ⟨by first | rfl | simp, by repeat (first | exact (Below.refl _ w).alloc (Nat.le_refl _) _ | apply pw_below_drewN | apply below_drew1)⟩
  | true =>
    by_cases hl : l0_1.length ≤ 16
    · have hl1 : decide (l0_1.length ≤ 16) = true := decide_eq_true hl
      have hl2 : decide ((l0_1.length : Int) ≤ 16) = true := decide_eq_true (by omega)
      rw [hl1]
      clear hl
      go_enter Try.func79, Try.ntmps79
      go_wp2_with (first | (go_at_call 96; (with_reducible refine (H1.out _).mono ?_); rintro e w' ⟨rfl, ⟨nd, rfl⟩⟩) | (go_at_call 112; refine (H.out _).mono ?_; rintro e w' ⟨rfl, hb⟩; have HB := Aside0.mk hb; clear hb))
      go_ret
      exact ⟨by first | rfl | simp, (by repeat (first | exact (Below.refl _ w).alloc (Nat.le_refl _) _ | apply pw_below_drewN | apply below_drew1) : Below w.heap.size w _).trans (HB.out.mono (by simp))⟩
    · have hl1 : decide (l0_1.length ≤ 16) = false := decide_eq_false hl
      have hl2 : decide ((l0_1.length : Int) ≤ 16) = false := decide_eq_false (by omega)
      rw [hl1]
      clear hl
      go_enter Try.func79, Try.ntmps79
      go_wp2_with (first | (go_at_call 96; (with_reducible refine (H1.out _).mono ?_); rintro e w' ⟨rfl, ⟨nd, rfl⟩⟩) | (go_at_call 112; refine (H.out _).mono ?_; rintro e w' ⟨rfl, hb⟩; have HB := Aside0.mk hb; clear hb))
      go_ret
      exact ⟨by first | rfl | simp, by repeat (first | exact (Below.refl _ w).alloc (Nat.le_refl _) _ | apply pw_below_drewN | apply below_drew1)⟩
end Go.Proofs.Ytdlaaccnaokdnaa.P
