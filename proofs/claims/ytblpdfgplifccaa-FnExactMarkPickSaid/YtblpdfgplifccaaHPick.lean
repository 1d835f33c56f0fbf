/- Contracts: impl.MarkPick, by hand: the sources are the marks themselves, or node 0. -/
import Derived.Test.YtblpdfgplifccaaHUp
import Derived.Test.YtblpdfgplifccaaHNet
import Derived.Test.YtblpdfgplifccaaPFImplNetTable
import Derived.Test.YtblpdfgplifccaaPFSlicesContainsIntInt
import Derived.Test.YtblpdfgplifccaaMEv
set_option linter.unusedVariables false
set_option linter.unusedSimpArgs false
namespace Go.Proofs.Ytblpdfgplifccaa.P
open Go.RowKit Go.Proofs.YtblpdfgplifccaaV.PrintWords Go.Proofs.YtblpdfgplifccaaV.PrintLast Go.Proofs.YtblpdfgplifccaaV.PrintMore
def rdG (T : List (List Int)) (i : Int) : List Int := T.getD i.toNat ([] : List Int)
def srcL (o : List Int) : List Int := if o.length = 0 then [0] else o
def leastTo (T : List (List Int)) (v : Int) (ss : List Int) : Nat → Option Int
  | 0 => some 99999
  | j + 1 => (leastTo T v ss j).bind fun b => if 0 ≤ rd ss (j : Int) ∧ rd ss (j : Int) < T.length ∧ 0 ≤ v ∧ v < (rdG T (rd ss (j : Int))).length then some (mn b (rd (rdG T (rd ss (j : Int))) v)) else none
def leastV (T : List (List Int)) (v : Int) (ss : List Int) : Option Int := (leastTo T v ss ss.length).bind fun b => some (if b = 99999 then 0 else b)
def pickN (T : List (List Int)) (o : List Int) : Nat → Option (Int × Int)
  | 0 => some (-1, -1)
  | v + 1 => (pickN T o v).bind fun pm => (leastV T (v : Int) (srcL o)).bind fun c => some (if o.contains (v : Int) = false ∧ c > pm.2 then ((v : Int), c) else pm)
def outN (T : List (List Int)) (n : Nat) : Nat → Option (List Int)
  | 0 => some []
  | i + 1 => (outN T n i).bind fun o => (pickN T o n).bind fun pm => some (o ++ [pm.1])
def impl_MarkPick.f (k : Nat) (nodes : Int) (l : List (S33)) (many : Int) : Option (List Int) := if netOkB nodes l = true ∧ 0 ≤ many ∧ many ≤ nodes then (impl_Net_table.f k nodes l).bind fun T => outN T nodes.toNat many.toNat else some []
theorem outN_pre {T : List (List Int)} {n : Nat} {m : Nat} {r : List Int} (h : outN T n m = some r) : ∀ i, i ≤ m → ∃ o, outN T n i = some o ∧ o.length = i := by
  have key : ∀ i o, outN T n i = some o → o.length = i := by
    intro i
    induction i with
    | zero => intro o h; obtain rfl := Option.some.inj h; rfl
    | succ i ih =>
      intro o h
      unfold outN at h
      obtain ⟨o', h1, h⟩ := Option.bind_eq_some_iff.1 h
      obtain ⟨pm, h2, h⟩ := Option.bind_eq_some_iff.1 h
      obtain rfl := Option.some.inj h
      rw [List.length_append, ih o' h1]
      rfl
  have down : ∀ d i, i + d = m → ∃ o, outN T n i = some o := by
    intro d
    induction d with
    | zero => intro i hi; rw [Nat.add_zero] at hi; rw [hi]; exact ⟨r, h⟩
    | succ d ih =>
      intro i hi
      obtain ⟨o, ho⟩ := ih (i + 1) (by omega)
      unfold outN at ho
      obtain ⟨o', h1, _⟩ := Option.bind_eq_some_iff.1 ho
      exact ⟨o', h1⟩
  intro i hi
  obtain ⟨o, ho⟩ := down (m - i) i (by omega)
  exact ⟨o, ho, key i o ho⟩
theorem pickN_pre {T : List (List Int)} {o : List Int} {m : Nat} {r : Int × Int} (h : pickN T o m = some r) : ∀ v, v < m → ∃ pm c, pickN T o v = some pm ∧ leastV T (v : Int) (srcL o) = some c := by
  have down : ∀ d v, v + d = m → ∃ pm, pickN T o v = some pm := by
    intro d
    induction d with
    | zero => intro v hv; rw [Nat.add_zero] at hv; rw [hv]; exact ⟨r, h⟩
    | succ d ih =>
      intro v hv
      obtain ⟨pm, hp⟩ := ih (v + 1) (by omega)
      unfold pickN at hp
      obtain ⟨pm', h1, _⟩ := Option.bind_eq_some_iff.1 hp
      exact ⟨pm', h1⟩
  intro v hv
  obtain ⟨pm, hp⟩ := down (m - (v + 1)) (v + 1) (by omega)
  unfold pickN at hp
  obtain ⟨pm', h1, hp⟩ := Option.bind_eq_some_iff.1 hp
  obtain ⟨c, h2, _⟩ := Option.bind_eq_some_iff.1 hp
  exact ⟨pm', c, h1, h2⟩
theorem leastTo_pre {T : List (List Int)} {v : Int} {ss : List Int} {m : Nat} {r : Int} (h : leastTo T v ss m = some r) : ∀ j, j < m → ∃ b, leastTo T v ss j = some b ∧ (0 ≤ rd ss (j : Int) ∧ rd ss (j : Int) < T.length ∧ 0 ≤ v ∧ v < (rdG T (rd ss (j : Int))).length) ∧ leastTo T v ss (j + 1) = some (mn b (rd (rdG T (rd ss (j : Int))) v)) := by
  have step : ∀ j b', leastTo T v ss (j + 1) = some b' → ∃ b, leastTo T v ss j = some b ∧ (0 ≤ rd ss (j : Int) ∧ rd ss (j : Int) < T.length ∧ 0 ≤ v ∧ v < (rdG T (rd ss (j : Int))).length) ∧ leastTo T v ss (j + 1) = some (mn b (rd (rdG T (rd ss (j : Int))) v)) := by
    intro j b' h
    have h' := h
    unfold leastTo at h
    obtain ⟨b, h1, h⟩ := Option.bind_eq_some_iff.1 h
    split at h
    · rename_i hc
      refine ⟨b, h1, hc, ?_⟩
      rw [h', ← h]
    · cases h
  have down : ∀ d j, j + d = m → ∃ b, leastTo T v ss j = some b := by
    intro d
    induction d with
    | zero => intro j hj; rw [Nat.add_zero] at hj; rw [hj]; exact ⟨r, h⟩
    | succ d ih =>
      intro j hj
      obtain ⟨b, hb⟩ := ih (j + 1) (by omega)
      obtain ⟨b', h1, _⟩ := step j b hb
      exact ⟨b', h1⟩
  intro j hj
  obtain ⟨b, hb⟩ := down (m - (j + 1)) (j + 1) (by omega)
  exact step j b hb
theorem contains_ev (o : List Int) (v : Int) (ho : o.length ≤ 1000) : ∃ k, slices_Contains_int_int.f k o v = some (o.contains v) := by
  have h1 : ∃ r, Go.Proofs.Ytblpdfgplifccaa.M.Ev (fun k => slices_Index_int_int.f k o v) r ∧ decide (r ≥ 0) = o.contains v := by
    have key : ∀ d i, i + d = o.length → (∀ j (hj : j < o.length), j < i → v ≠ o[j]) → ∃ r, Go.Proofs.Ytblpdfgplifccaa.M.Ev (fun k => slices_Index_int_int.l0 k o v (o.length : Int) (i : Int)) r ∧ decide (r ≥ 0) = o.contains v := by
      intro d
      induction d with
      | zero =>
        intro i hi hno
        refine ⟨-1, Go.Proofs.Ytblpdfgplifccaa.M.Ev.step (G := fun _ => some (-1)) (fun k => by simp only [slices_Index_int_int.l0]; rw [if_neg (by omega)]) (Go.Proofs.Ytblpdfgplifccaa.M.Ev.ret _), ?_⟩
        have : o.contains v = false := by
          rw [← Bool.not_eq_true, List.contains_iff_mem]
          intro hm
          obtain ⟨j, hj, he⟩ := List.getElem_of_mem hm
          exact hno j hj (by omega) he.symm
        rw [this]
        rfl
      | succ d ih =>
        intro i hi hno
        have hil : i < o.length := by omega
        have hr : rd o (i : Int) = o[i] := rd_at o i hil
        by_cases hv : v = o[i]
        · refine ⟨(i : Int), Go.Proofs.Ytblpdfgplifccaa.M.Ev.step (G := fun _ => some (i : Int)) (fun k => by simp only [slices_Index_int_int.l0]; rw [if_pos (by omega), if_pos (by omega), if_pos (by omega), hr, if_pos hv]) (Go.Proofs.Ytblpdfgplifccaa.M.Ev.ret _), ?_⟩
          have : o.contains v = true := by
            rw [List.contains_iff_mem, hv]
            exact List.getElem_mem hil
          rw [this]
          exact decide_eq_true (by omega)
        · obtain ⟨r, h1, h2⟩ := ih (i + 1) (by omega) (fun j hj hji => by
            by_cases e : j = i
            · subst e; exact hv
            · exact hno j hj (by omega))
          refine ⟨r, Go.Proofs.Ytblpdfgplifccaa.M.Ev.step (fun k => ?_) h1, h2⟩
          simp only [slices_Index_int_int.l0]
          rw [if_pos (by omega), if_pos (by omega), if_pos (by omega), hr, if_neg hv, Go.Proofs.Ytblpdfgplifccaa.M.w64s (by omega)]
    exact key o.length 0 (by omega) (fun j _ hj => absurd hj (Nat.not_lt_zero _))
  obtain ⟨r, ⟨k, hk⟩, h2⟩ := h1
  refine ⟨k, ?_⟩
  unfold slices_Contains_int_int.f
  rw [show slices_Index_int_int.f k o v = some r from hk k (Nat.le_refl _)]
  simp only [Option.bind_some]
  rw [h2]
theorem at_LG {w : World} {A : Option Addr} {n : Nat} {xs : List (List Int)} (h : Kd.C (Kd.slice 3 (Kd.int .i64)) w A n xs) (i : Int) (h0 : 0 ≤ i) (h1 : i < n) : ∃ ad A0 c0, A = some ad ∧ w.cell? (ad.add i.toNat) = some (.slice A0 (rdG xs i).length c0) ∧ (rdG xs i).length ≤ c0 ∧ (Kd.int .i64).C w A0 (rdG xs i).length (rdG xs i) := at_L5 h i h0 h1
set_option maxHeartbeats 4000000 in
set_option maxRecDepth 100000 in
theorem impl_MarkPick.calls (k : Nat) (a0_0 : Int) (A0_1 : Option Addr) (c0_1 : Nat) (l0_1 : List (S33)) (a1 : Int) (r : List Int) (w : World) (hr0_1 : Kd.C k33 w A0_1 l0_1.length l0_1) (hc0_1 : l0_1.length ≤ c0_1) (h : impl_MarkPick.f k a0_0 l0_1 a1 = some r) :
    Calls Try.prog 40 #[.agg #[.int .i64 a0_0, .slice A0_1 l0_1.length c0_1], .int .i64 a1] w fun e w' => ∃ v0_ : Value, e = .returned v0_ ∧ Kd.R (Kd.int .i64) 3 w' w.heap.size (fun _ => True) v0_ r ∧ Below w.heap.size w w' := by
  have hu25 := Try.underlying25
  have HR := Aside0.mk hr0_1
  have HC := Aside0.mk hc0_1
  clear hr0_1 hc0_1
  have HB := Aside0.mk (Below.refl w.heap.size w)
  have AN : Aside0 (impl_NetOk.f a0_0 l0_1 = some (netOkB a0_0 l0_1)) := ⟨rfl⟩
  have AW : Aside0 (impl_within.f a1 0 a0_0 = some (decide (0 ≤ a1) && decide (a1 ≤ a0_0))) := ⟨within_le _ _ _⟩
  unfold impl_MarkPick.f at h
  have HQ := Aside0.mk h
  clear h
  go_enter Try.func40, Try.ntmps40
  go_upto_region 1 with ((with_reducible refine gate_dst (N := 2) rfl ?_); refine be (cs := #[.int .i64 a0_0, .slice A0_1 l0_1.length c0_1]) (t := 25) ?_; intro gb101 hg w5 hbox hb; have BK0 := Aside0.mk hbox; have GE101 := gz w hg (uB0 HB); replace HB := Aside0.mk (below_step (uB0 HB) hb); clear hb hbox hg)
  (try simp only [Act.put, List.setIfInBounds_toArray, List.set_cons_zero, List.set_cons_succ])
  go_cut [23] (fun v23 wc => ∃ (b : Bool), v23 = .bool b ∧ Aside0 (b = !(netOkB a0_0 l0_1 && (decide (0 ≤ a1) && decide (a1 ≤ a0_0)))) ∧ Aside0 (wc.heap[gb101]? = some (.cells #[.int .i64 a0_0, .slice A0_1 l0_1.length c0_1] 25 (0, 0))) ∧ Aside0 (Below w.heap.size w wc))
  case first =>
    obtain ⟨hz0, hz1, hf0, hf1⟩ := bc2 BK0
    cases hP : netOkB a0_0 l0_1 with
    | false =>
      rw [hP] at AN
      have HP0 := Aside0.mk hP
      clear hP
      go_wp2_with (go_at_call 20; (with_reducible refine (impl_NetOk.calls a0_0 _ _ l0_1 false _ ?side1 ?side2 AN.out).mono ?_); (case side1 => exact uC HR HB); (case side2 => exact HC.out); rintro e w6 ⟨rfl, hb⟩; replace BK0 := bb BK0 hb; replace HB := Aside0.mk (below_step (uB1 HB GE101.out) hb); clear hb)
      go_meet
      case rel => exact ⟨true, ue, ⟨by rw [HP0.out]; rfl⟩, ⟨ub BK0⟩, ⟨uB1 HB GE101.out⟩⟩
    | true =>
      rw [hP] at AN
      have HP0 := Aside0.mk hP
      clear hP
      obtain ⟨bw, hbw⟩ : ∃ bw, bw = (decide (0 ≤ a1) && decide (a1 ≤ a0_0)) := ⟨_, rfl⟩
      rw [← hbw] at AW
      have HBW := Aside0.mk hbw
      clear hbw
      go_wp2_with (first | (go_at_call 20; (with_reducible refine (impl_NetOk.calls a0_0 _ _ l0_1 true _ ?side1 ?side2 AN.out).mono ?_); (case side1 => exact uC HR HB); (case side2 => exact HC.out); rintro e w6 ⟨rfl, hb⟩; replace BK0 := bb BK0 hb; replace HB := Aside0.mk (below_step (uB1 HB GE101.out) hb); clear hb hz0 hz1 hf0 hf1; obtain ⟨hz0, hz1, hf0, hf1⟩ := bc2 BK0) | (go_at_call 63; (with_reducible refine (impl_within.calls a1 0 a0_0 bw _ AW.out).mono ?_); rintro e w' ⟨rfl, ⟨nd, rfl⟩⟩))
      go_meet
      case rel => exact ⟨!bw, ue, ⟨by rw [HP0.out, HBW.out]; rfl⟩, ⟨ub BK0⟩, ⟨uB1 HB GE101.out⟩⟩
  case rest =>
    obtain ⟨b, rfl, HA, BK0, HB⟩ := hcut
    clear AN AW
    cases hb : netOkB a0_0 l0_1 && (decide (0 ≤ a1) && decide (a1 ≤ a0_0)) with
    | false =>
      have hq := HQ.out
      rw [hb] at HA
      obtain rfl : b = true := HA.out
      rw [if_neg (by
        rintro ⟨e1, e2, e3⟩
        rw [e1, decide_eq_true e2, decide_eq_true e3] at hb
        exact absurd hb (by decide))] at hq
      obtain rfl := Option.some.inj hq
      clear hb HA HQ
      go_wp2
      go_ret
      exact ⟨_, rfl, Kd.R_nil _ _ _ _ _, HB.out⟩
    | true =>
      rw [hb] at HA
      obtain rfl : b = false := HA.out
      simp only [Bool.and_eq_true, decide_eq_true_eq] at hb
      have hq := HQ.out
      have hc : netOkB a0_0 l0_1 = true ∧ 0 ≤ a1 ∧ a1 ≤ a0_0 := hb
      rw [if_pos hc] at hq
      obtain ⟨T, hT, hq⟩ := Option.bind_eq_some_iff.1 hq
      have HT := Aside0.mk hT
      have HO := Aside0.mk hq
      have hnb : 1 ≤ a0_0 ∧ a0_0 ≤ 8 := by
        have h9 := hb.1
        simp only [netOkB, Bool.and_eq_true, decide_eq_true_eq] at h9
        exact ⟨h9.1.1.1, h9.1.1.2⟩
      obtain ⟨hm0, hm1⟩ := hb.2
      have HN := Aside0.mk hnb
      clear hb HA HQ hq hT hnb hc
      obtain ⟨hz0, hz1, hf0, hf1⟩ := bc2 BK0
      go_upto_region 4 with (go_at_call 81; (with_reducible refine (impl_Net_table.calls k a0_0 _ _ l0_1 T _ ?side1 ?side2 HT.out).mono ?_); (case side1 => exact uC HR HB); (case side2 => exact HC.out); rintro e w7 ⟨vt, rfl, ho0, hb⟩; obtain ⟨At, ct, eo⟩ := Kd.S_slice ho0; subst eo; have HTC := Aside0.mk (Kd.S_reads' ho0).2.2; replace BK0 := bb BK0 hb; replace HB := Aside0.mk (below_step (uB1 HB GE101.out) hb); clear hb ho0 hz0 hz1 hf0 hf1)
      have HB1 := Aside0.mk (Below.refl w7.heap.size w7)
      have HLT : Aside0 (gb101 < w7.heap.size) := ⟨blk_lt BK0.out⟩
      go_upto_region 5 with ((with_reducible refine gate_dst (N := 27) rfl ?_); refine Kd.R_room (Kd.int .i64) w7.heap.size 3 rfl (N := 27) rfl 26 _ _ rfl a1 rfl rfl Try.underlying26 (.int .i64 0) 8 info3 rfl (by omega) (ok := fun _ => True) trivial hm0 (by have h9 := HN.out; omega) HB1.out (HB1.out.size) ?_; intro vo w8 ho hb hg_ hnew_; have HO0 := Aside0.mk ho; replace BK0 := Aside0.mk (blk_grown BK0.out hg_ (by simp)); replace HB1 := Aside0.mk hb; clear ho hb hg_ hnew_)
      obtain ⟨Ao0, co0, eo⟩ := Kd.R_slice HO0.out
      subst eo
      obtain ⟨n, hn⟩ : ∃ n : Nat, n = a0_0.toNat := ⟨_, rfl⟩
      obtain ⟨m, hm⟩ : ∃ m : Nat, m = a1.toNat := ⟨_, rfl⟩
      rw [← hn, ← hm] at HO
      have hnz : a0_0 = (n : Int) := by have h9 := HN.out; omega
      have hmz : a1 = (m : Int) := by omega
      have hn8 : n ≤ 8 := by have h9 := HN.out; omega
      have hmn : m ≤ n := by omega
      have HNZ := Aside0.mk hnz
      have HMZ := Aside0.mk hmz
      clear hn hm hm0 hm1 hnz hmz
      go_loopg [6] m (fun gg s6 wr => ∃ (i : Nat) (o : List Int) (Ao : Option Addr) (co : Nat), s6 = .slice Ao o.length co ∧ i ≤ m ∧ m - i ≤ gg ∧ Aside0 (outN T n i = some o) ∧ Aside0 (o.length = i) ∧ Aside0 (Kd.R (Kd.int .i64) 3 wr w7.heap.size (fun _ => True) (.slice Ao o.length co) o) ∧ Aside0 (wr.heap[gb101]? = some (.cells #[.int .i64 a0_0, .slice A0_1 l0_1.length c0_1] 25 (0, 0))) ∧ Aside0 (Below w7.heap.size w7 wr))
      case atStart => exact ⟨0, [], Ao0, co0, rfl, Nat.zero_le _, Nat.le_refl _, ⟨rfl⟩, ⟨rfl⟩, HO0, BK0, HB1⟩
      case round =>
        clear BK0 HB1 HO0
        obtain ⟨i, o, Ao, co, rfl, him, hgg, HOO, HOL, HO1, BK0, HB1⟩ := hrel
        by_cases hlt : i < m
        · have hltz : decide ((o.length : Int) < a1) = true := dl (by have h9 := HMZ.out; have h8 := HOL.out; omega)
          obtain ⟨o2, ho2, ho2l⟩ := outN_pre HO.out (i + 1) (by omega)
          have ho3 := ho2
          unfold outN at ho3
          rw [HOO.out] at ho3
          simp only [Option.bind_some] at ho3
          obtain ⟨pm, hpm, ho3⟩ := Option.bind_eq_some_iff.1 ho3
          obtain rfl := Option.some.inj ho3
          have HPM := Aside0.mk hpm
          have HO2 := Aside0.mk ho2
          clear ho2 ho2l hpm ho3
          by_cases hz : o.length = 0
          · obtain ⟨ss, hss⟩ : ∃ ss, ss = ([0] : List Int) := ⟨_, rfl⟩
            have HS0 := Aside0.mk hss.symm
            have HSS : Aside0 (srcL o = ss) := ⟨by unfold srcL; rw [if_pos hz, hss]⟩
            have hz1 := (dq (show (o.length : Int) = 0 by omega)).1
            have HSL : Aside0 (ss.length ≤ 8) := ⟨by rw [hss]; decide⟩
            clear hss hz
            go_upto_region 9 with ((with_reducible refine gate_dst (N := 36) rfl ?_); refine Kd.R_lit (Kd.int .i64) w7.heap.size 3 ?hg (N := 36) ?hd (xs := ([0] : List Int)) (inner := [.int .i64 0]) (ok := fun _ => True) (okp := fun _ => True) ?hr ?hp (fun _ hk => hk) trivial HB1.out (HB1.out.size) (by simp) ?_; (case hd => rfl); (case hg => rfl); (case hr => first | (go_simp; done) | (go_simp; rfl)); (case hp => exact (Reps.one (show Kd.M (Kd.int .i64) _ _ _ 0 [.int .i64 0] from rfl) (Reps.none _ _))); intro vl w9 hol hb hg_ hnew_; rw [HS0.out] at hol; obtain ⟨Al, cl, el⟩ := Kd.R_slice hol; subst el; have HSC := Aside0.mk (Kd.R_reads' hol).2.2; have HO1 := Aside0.mk (Kd.R_step HO1.out (fun k hok hlt2 => hg_.block k hlt2 (by simp))); replace BK0 := Aside0.mk (blk_grown BK0.out hg_ (by simp)); replace HB1 := Aside0.mk hb; clear hol hb hg_ hnew_)
            obtain ⟨hz0, hz1, hf0, hf1⟩ := bc2 BK0
            go_wp2
            go_loopg [8, 9, 39] n (fun gg s8 s9 s39 wr => ∃ (v : Nat) (p mm : Int), s8 = .int .i64 p ∧ s9 = .int .i64 mm ∧ s39 = .int .i64 (v : Int) ∧ v ≤ n ∧ n - v ≤ gg ∧ Aside0 (pickN T o v = some (p, mm)) ∧ Aside0 (Kd.C (Kd.int .i64) wr Al ss.length ss) ∧ Aside0 (Kd.R (Kd.int .i64) 3 wr w7.heap.size (fun _ => True) (.slice Ao o.length co) o) ∧ Aside0 (wr.heap[gb101]? = some (.cells #[.int .i64 a0_0, .slice A0_1 l0_1.length c0_1] 25 (0, 0))) ∧ Aside0 (Below w7.heap.size w7 wr))
            case atStart => exact ⟨0, -1, -1, rfl, rfl, rfl, Nat.zero_le _, Nat.le_refl _, ⟨rfl⟩, HSC, HO1, BK0, HB1⟩
            case round =>
              clear HSC HO1 BK0 HB1 hz0 hz1 hf0 hf1
              obtain ⟨v, p, mm, rfl, rfl, rfl, hvn, hgv, HPK, HSC, HO1, BK0, HB1⟩ := hrel
              by_cases hv : v < n
              · have hvz : decide ((v : Int) < a0_0) = true := dl (by have h9 := HNZ.out; omega)
                obtain ⟨pm2, c, hp2, hlv⟩ := pickN_pre HPM.out v hv
                rw [HPK.out] at hp2
                obtain rfl := Option.some.inj hp2
                have hlv0 := hlv
                unfold leastV at hlv0
                obtain ⟨b, hlb, hcb⟩ := Option.bind_eq_some_iff.1 hlv0
                rw [HSS.out] at hlb
                have HLB := Aside0.mk hlb
                have HCB := Aside0.mk (Option.some.inj hcb)
                have HLV := Aside0.mk hlv
                clear hp2 hlv hlv0 hlb hcb
                obtain ⟨kc, hkc⟩ := contains_ev o (v : Int) (by have h9 := HOL.out; omega)
                go_wp2
                go_loopg [11, 44] ss.length (fun gg s11 s44 wr => ∃ (j : Nat) (bb_ : Int), s11 = .int .i64 bb_ ∧ s44 = .int .i64 (j : Int) ∧ j ≤ ss.length ∧ ss.length - j ≤ gg ∧ Aside0 (leastTo T (v : Int) ss j = some bb_) ∧ Aside0 (Kd.C (Kd.int .i64) wr Al ss.length ss) ∧ Aside0 (Kd.R (Kd.int .i64) 3 wr w7.heap.size (fun _ => True) (.slice Ao o.length co) o) ∧ Aside0 (wr.heap[gb101]? = some (.cells #[.int .i64 a0_0, .slice A0_1 l0_1.length c0_1] 25 (0, 0))) ∧ Aside0 (Below w7.heap.size w7 wr))
                case atStart => exact ⟨0, 99999, rfl, rfl, Nat.zero_le _, Nat.le_refl _, ⟨rfl⟩, HSC, HO1, BK0, HB1⟩
                case round =>
                  clear HSC HO1 BK0 HB1
                  obtain ⟨j, bj, rfl, rfl, hjs, hgj, HLJ, HSC, HO1, BK0, HB1⟩ := hrel
                  by_cases hj : j < ss.length
                  · have hjz := dl (show (j : Int) < (ss.length : Int) by omega)
                    obtain ⟨b2, hb2, hcond, hnext⟩ := leastTo_pre HLB.out j hj
                    rw [HLJ.out] at hb2
                    obtain rfl := Option.some.inj hb2
                    obtain ⟨q0, q1, q2, q3⟩ := hcond
                    have p0 := eq_true (show 0 ≤ (j : Int) by omega)
                    have p1 := eq_true (show (j : Int) < (ss.length : Int) by omega)
                    have p2 := eq_true q0
                    have p3 := eq_true q1
                    have p4 := eq_true q2
                    have p5 := eq_true q3
                    obtain ⟨ad, e1, h1⟩ := Kd.at_int HSC.out (j : Int) (by omega) (by omega)
                    cases e1
                    obtain ⟨ad2, A9, c9, e2, h2, h3, h4⟩ := at_LG (Kd.C_below HTC.out HB1.out) (rd ss (j : Int)) q0 q1
                    cases e2
                    obtain ⟨ad3, e3, h5⟩ := Kd.at_int h4 (v : Int) q2 q3
                    cases e3
                    have HNX := Aside0.mk hnext
                    simp only [Int.toNat_natCast] at h1 h5
                    clear hb2 q0 q1 q2 q3 hnext h3 h4
                    have HJ8 : Aside0 (j < 8) := ⟨by have h9 := HSL.out; omega⟩
                    by_cases hmin : rd (rdG T (rd ss (j : Int))) (v : Int) < bj
                    · have HNX2 : Aside0 (leastTo T (v : Int) ss (j + 1) = some (rd (rdG T (rd ss (j : Int))) (v : Int))) := ⟨by rw [HNX.out]; unfold mn; rw [if_pos hmin]⟩
                      clear HNX
                      go_wp2
                      go_roundg (ss.length - j - 1)
                      case measure => omega
                      case rel => exact ⟨j + 1, _, rfl, congrArg (Value.int .i64) (by have h9 := HJ8.out; first | omega | (unfold wrap64; omega)), by omega, by omega, HNX2, HSC, HO1, BK0, HB1⟩
                    · have HNX2 : Aside0 (leastTo T (v : Int) ss (j + 1) = some bj) := ⟨by rw [HNX.out]; unfold mn; rw [if_neg hmin]⟩
                      clear HNX
                      go_wp2
                      go_roundg (ss.length - j - 1)
                      case measure => omega
                      case rel => exact ⟨j + 1, _, rfl, congrArg (Value.int .i64) (by have h9 := HJ8.out; first | omega | (unfold wrap64; omega)), by omega, by omega, HNX2, HSC, HO1, BK0, HB1⟩
                  · have hjz := DL (show ¬ (j : Int) < (ss.length : Int) by omega)
                    obtain rfl : j = ss.length := by omega
                    have hbb : bj = b := by have h9 := HLB.out; rw [HLJ.out] at h9; exact Option.some.inj h9
                    subst hbb
                    obtain ⟨bo, hbo⟩ : ∃ bo, bo = o.contains (v : Int) := ⟨_, rfl⟩
                    rw [← hbo] at hkc
                    have HKC := Aside0.mk hkc
                    have HBO := Aside0.mk hbo
                    clear hkc hbo
                    by_cases hf : bj = 99999
                    · have hf1 := (dq hf).1
                      have hcL : Aside0 (c = 0) := ⟨by have h9 := HCB.out; rw [if_pos hf] at h9; exact h9.symm⟩
                      clear hf
                      cases bo with
                      | true =>
                        go_wp2_with (go_at_call 82; (with_reducible refine (slices_Contains_int_int.calls kc Ao co o (v : Int) true _ ?side1 ?side2 HKC.out).mono ?_); (case side1 => exact uD (Kd.R_reads' HO1.out).2.2); (case side2 => exact (Kd.R_reads' HO1.out).2.1); rintro e w' ⟨rfl, ⟨nd, rfl⟩⟩; replace HSC := Aside0.mk (Kd.C_drewN HSC.out nd); replace HO1 := Aside0.mk (Kd.R_drewN HO1.out nd); replace BK0 := Aside0.mk (blk_drewN BK0.out nd); replace HB1 := Aside0.mk (pw_below_drewN HB1.out nd))
                        go_roundg (n - v - 1)
                        case measure => omega
                        case rel => exact ⟨v + 1, p, mm, rfl, rfl, congrArg (Value.int .i64) (by first | omega | (unfold wrap64; omega)), by omega, by omega, ⟨by unfold pickN; rw [HPK.out]; simp only [Option.bind_some]; rw [HLV.out]; simp only [Option.bind_some]; rw [if_neg (by rw [← HBO.out]; simp)]⟩, HSC, HO1, BK0, HB1⟩
                      | false =>
                        by_cases hg : mm < 0
                        · have hg1 := dl hg
                          have HGT := Aside0.mk hg
                          clear hg
                          go_wp2_with (go_at_call 82; (with_reducible refine (slices_Contains_int_int.calls kc Ao co o (v : Int) false _ ?side1 ?side2 HKC.out).mono ?_); (case side1 => exact uD (Kd.R_reads' HO1.out).2.2); (case side2 => exact (Kd.R_reads' HO1.out).2.1); rintro e w' ⟨rfl, ⟨nd, rfl⟩⟩; replace HSC := Aside0.mk (Kd.C_drewN HSC.out nd); replace HO1 := Aside0.mk (Kd.R_drewN HO1.out nd); replace BK0 := Aside0.mk (blk_drewN BK0.out nd); replace HB1 := Aside0.mk (pw_below_drewN HB1.out nd))
                          go_roundg (n - v - 1)
                          case measure => omega
                          case rel => exact ⟨v + 1, (v : Int), 0, rfl, rfl, congrArg (Value.int .i64) (by first | omega | (unfold wrap64; omega)), by omega, by omega, ⟨by unfold pickN; rw [HPK.out]; simp only [Option.bind_some]; rw [HLV.out]; simp only [Option.bind_some]; rw [if_pos ⟨HBO.out.symm, by rw [hcL.out]; exact HGT.out⟩, hcL.out]⟩, HSC, HO1, BK0, HB1⟩
                        · have hg1 := DL hg
                          have HGT := Aside0.mk hg
                          clear hg
                          go_wp2_with (go_at_call 82; (with_reducible refine (slices_Contains_int_int.calls kc Ao co o (v : Int) false _ ?side1 ?side2 HKC.out).mono ?_); (case side1 => exact uD (Kd.R_reads' HO1.out).2.2); (case side2 => exact (Kd.R_reads' HO1.out).2.1); rintro e w' ⟨rfl, ⟨nd, rfl⟩⟩; replace HSC := Aside0.mk (Kd.C_drewN HSC.out nd); replace HO1 := Aside0.mk (Kd.R_drewN HO1.out nd); replace BK0 := Aside0.mk (blk_drewN BK0.out nd); replace HB1 := Aside0.mk (pw_below_drewN HB1.out nd))
                          go_roundg (n - v - 1)
                          case measure => omega
                          case rel => exact ⟨v + 1, p, mm, rfl, rfl, congrArg (Value.int .i64) (by first | omega | (unfold wrap64; omega)), by omega, by omega, ⟨by unfold pickN; rw [HPK.out]; simp only [Option.bind_some]; rw [HLV.out]; simp only [Option.bind_some]; rw [if_neg (fun h9 => by have h8 := HGT.out; have h7 := hcL.out; have h6 := h9.2; omega)]⟩, HSC, HO1, BK0, HB1⟩
                    · have hf1 := (dQ hf).1
                      have hcL : Aside0 (c = bj) := ⟨by have h9 := HCB.out; rw [if_neg hf] at h9; exact h9.symm⟩
                      clear hf
                      cases bo with
                      | true =>
                        go_wp2_with (go_at_call 82; (with_reducible refine (slices_Contains_int_int.calls kc Ao co o (v : Int) true _ ?side1 ?side2 HKC.out).mono ?_); (case side1 => exact uD (Kd.R_reads' HO1.out).2.2); (case side2 => exact (Kd.R_reads' HO1.out).2.1); rintro e w' ⟨rfl, ⟨nd, rfl⟩⟩; replace HSC := Aside0.mk (Kd.C_drewN HSC.out nd); replace HO1 := Aside0.mk (Kd.R_drewN HO1.out nd); replace BK0 := Aside0.mk (blk_drewN BK0.out nd); replace HB1 := Aside0.mk (pw_below_drewN HB1.out nd))
                        go_roundg (n - v - 1)
                        case measure => omega
                        case rel => exact ⟨v + 1, p, mm, rfl, rfl, congrArg (Value.int .i64) (by first | omega | (unfold wrap64; omega)), by omega, by omega, ⟨by unfold pickN; rw [HPK.out]; simp only [Option.bind_some]; rw [HLV.out]; simp only [Option.bind_some]; rw [if_neg (by rw [← HBO.out]; simp)]⟩, HSC, HO1, BK0, HB1⟩
                      | false =>
                        by_cases hg : mm < bj
                        · have hg1 := dl hg
                          have HGT := Aside0.mk hg
                          clear hg
                          go_wp2_with (go_at_call 82; (with_reducible refine (slices_Contains_int_int.calls kc Ao co o (v : Int) false _ ?side1 ?side2 HKC.out).mono ?_); (case side1 => exact uD (Kd.R_reads' HO1.out).2.2); (case side2 => exact (Kd.R_reads' HO1.out).2.1); rintro e w' ⟨rfl, ⟨nd, rfl⟩⟩; replace HSC := Aside0.mk (Kd.C_drewN HSC.out nd); replace HO1 := Aside0.mk (Kd.R_drewN HO1.out nd); replace BK0 := Aside0.mk (blk_drewN BK0.out nd); replace HB1 := Aside0.mk (pw_below_drewN HB1.out nd))
                          go_roundg (n - v - 1)
                          case measure => omega
                          case rel => exact ⟨v + 1, (v : Int), bj, rfl, rfl, congrArg (Value.int .i64) (by first | omega | (unfold wrap64; omega)), by omega, by omega, ⟨by unfold pickN; rw [HPK.out]; simp only [Option.bind_some]; rw [HLV.out]; simp only [Option.bind_some]; rw [if_pos ⟨HBO.out.symm, by rw [hcL.out]; exact HGT.out⟩, hcL.out]⟩, HSC, HO1, BK0, HB1⟩
                        · have hg1 := DL hg
                          have HGT := Aside0.mk hg
                          clear hg
                          go_wp2_with (go_at_call 82; (with_reducible refine (slices_Contains_int_int.calls kc Ao co o (v : Int) false _ ?side1 ?side2 HKC.out).mono ?_); (case side1 => exact uD (Kd.R_reads' HO1.out).2.2); (case side2 => exact (Kd.R_reads' HO1.out).2.1); rintro e w' ⟨rfl, ⟨nd, rfl⟩⟩; replace HSC := Aside0.mk (Kd.C_drewN HSC.out nd); replace HO1 := Aside0.mk (Kd.R_drewN HO1.out nd); replace BK0 := Aside0.mk (blk_drewN BK0.out nd); replace HB1 := Aside0.mk (pw_below_drewN HB1.out nd))
                          go_roundg (n - v - 1)
                          case measure => omega
                          case rel => exact ⟨v + 1, p, mm, rfl, rfl, congrArg (Value.int .i64) (by first | omega | (unfold wrap64; omega)), by omega, by omega, ⟨by unfold pickN; rw [HPK.out]; simp only [Option.bind_some]; rw [HLV.out]; simp only [Option.bind_some]; rw [if_neg (fun h9 => by have h8 := HGT.out; have h7 := hcL.out; have h6 := h9.2; omega)]⟩, HSC, HO1, BK0, HB1⟩
              · have hvz : decide ((v : Int) < a0_0) = false := DL (by have h9 := HNZ.out; omega)
                have hvn2 : v = n := by omega
                have hpm3 : pm = (p, mm) := by have h9 := HPM.out; rw [← hvn2, HPK.out] at h9; exact (Option.some.inj h9).symm
                subst hpm3
                clear hvn2
                go_wp2_with ((with_reducible refine gate_builtin (b := .append) (xs := #[.tmp 72, .tmp 74]) rfl ?_); at_builtin; refine Kd.R_append (Kd.int .i64) (w0 := w7) w7.heap.size rfl (.tmp 72) (.tmp 74) 26 3 (.int .i64 0) 8 rfl Try.underlying26 info3 rfl (by decide) (by omega) (.slice Ao o.length co) o p [.int .i64 p] (fun _ => True) (fun _ => False) rfl rfl ?aP (fun _ hk => hk.elim) ?aF ?aO ?aB ?aS ?aL ?_; (case aP => exact rfl); (case aF => exact fun _ _ => trivial); (case aO => exact HO1.out); (case aB => exact HB1.out); (case aS => exact HB1.out.size); (case aL => have h9 := HOL.out; omega); intro v1 w9 ho hb hg hat; replace BK0 := Aside0.mk (blk_grown BK0.out hg (fun e => by have h9 := Kd.R_base HO1.out gb101 e.symm; have h8 := HLT.out; omega)); replace HO1 := Aside0.mk ho; replace HB1 := Aside0.mk hb; clear ho hb hg hat)
                obtain ⟨A8, c8, e8⟩ := Kd.R_slice HO1.out
                subst e8
                go_roundg (m - i - 1)
                case measure => omega
                case rel => exact ⟨i + 1, o ++ [p], A8, c8, rfl, by omega, by omega, HO2, ⟨by have h9 := HOL.out; rw [List.length_append, h9]; rfl⟩, HO1, BK0, HB1⟩
          · have HSS : Aside0 (srcL o = o) := ⟨by unfold srcL; rw [if_neg hz]⟩
            have hz1 := (dQ (show ¬ (o.length : Int) = 0 by omega)).1
            have hz2 : ¬ o = [] := fun e => hz (by rw [e]; rfl)
            have HSL : Aside0 (o.length ≤ 8) := ⟨by have h9 := HOL.out; omega⟩
            clear hz
            have HSC := Aside0.mk (Kd.R_reads' HO1.out).2.2
            go_upto_region 9 with (fail)
            obtain ⟨hz0, hz1, hf0, hf1⟩ := bc2 BK0
            go_wp2
            go_loopg [8, 9, 39] n (fun gg s8 s9 s39 wr => ∃ (v : Nat) (p mm : Int), s8 = .int .i64 p ∧ s9 = .int .i64 mm ∧ s39 = .int .i64 (v : Int) ∧ v ≤ n ∧ n - v ≤ gg ∧ Aside0 (pickN T o v = some (p, mm)) ∧ Aside0 (Kd.C (Kd.int .i64) wr Ao o.length o) ∧ Aside0 (Kd.R (Kd.int .i64) 3 wr w7.heap.size (fun _ => True) (.slice Ao o.length co) o) ∧ Aside0 (wr.heap[gb101]? = some (.cells #[.int .i64 a0_0, .slice A0_1 l0_1.length c0_1] 25 (0, 0))) ∧ Aside0 (Below w7.heap.size w7 wr))
            case atStart => exact ⟨0, -1, -1, rfl, rfl, rfl, Nat.zero_le _, Nat.le_refl _, ⟨rfl⟩, HSC, HO1, BK0, HB1⟩
            case round =>
              clear HSC HO1 BK0 HB1 hz0 hz1 hf0 hf1
              obtain ⟨v, p, mm, rfl, rfl, rfl, hvn, hgv, HPK, HSC, HO1, BK0, HB1⟩ := hrel
              by_cases hv : v < n
              · have hvz : decide ((v : Int) < a0_0) = true := dl (by have h9 := HNZ.out; omega)
                obtain ⟨pm2, c, hp2, hlv⟩ := pickN_pre HPM.out v hv
                rw [HPK.out] at hp2
                obtain rfl := Option.some.inj hp2
                have hlv0 := hlv
                unfold leastV at hlv0
                obtain ⟨b, hlb, hcb⟩ := Option.bind_eq_some_iff.1 hlv0
                rw [HSS.out] at hlb
                have HLB := Aside0.mk hlb
                have HCB := Aside0.mk (Option.some.inj hcb)
                have HLV := Aside0.mk hlv
                clear hp2 hlv hlv0 hlb hcb
                obtain ⟨kc, hkc⟩ := contains_ev o (v : Int) (by have h9 := HOL.out; omega)
                go_wp2
                go_loopg [11, 44] o.length (fun gg s11 s44 wr => ∃ (j : Nat) (bb_ : Int), s11 = .int .i64 bb_ ∧ s44 = .int .i64 (j : Int) ∧ j ≤ o.length ∧ o.length - j ≤ gg ∧ Aside0 (leastTo T (v : Int) o j = some bb_) ∧ Aside0 (Kd.C (Kd.int .i64) wr Ao o.length o) ∧ Aside0 (Kd.R (Kd.int .i64) 3 wr w7.heap.size (fun _ => True) (.slice Ao o.length co) o) ∧ Aside0 (wr.heap[gb101]? = some (.cells #[.int .i64 a0_0, .slice A0_1 l0_1.length c0_1] 25 (0, 0))) ∧ Aside0 (Below w7.heap.size w7 wr))
                case atStart => exact ⟨0, 99999, rfl, rfl, Nat.zero_le _, Nat.le_refl _, ⟨rfl⟩, HSC, HO1, BK0, HB1⟩
                case round =>
                  clear HSC HO1 BK0 HB1
                  obtain ⟨j, bj, rfl, rfl, hjs, hgj, HLJ, HSC, HO1, BK0, HB1⟩ := hrel
                  by_cases hj : j < o.length
                  · have hjz := dl (show (j : Int) < (o.length : Int) by omega)
                    obtain ⟨b2, hb2, hcond, hnext⟩ := leastTo_pre HLB.out j hj
                    rw [HLJ.out] at hb2
                    obtain rfl := Option.some.inj hb2
                    obtain ⟨q0, q1, q2, q3⟩ := hcond
                    have p0 := eq_true (show 0 ≤ (j : Int) by omega)
                    have p1 := eq_true (show (j : Int) < (o.length : Int) by omega)
                    have p2 := eq_true q0
                    have p3 := eq_true q1
                    have p4 := eq_true q2
                    have p5 := eq_true q3
                    obtain ⟨ad, e1, h1⟩ := Kd.at_int HSC.out (j : Int) (by omega) (by omega)
                    cases e1
                    obtain ⟨ad2, A9, c9, e2, h2, h3, h4⟩ := at_LG (Kd.C_below HTC.out HB1.out) (rd o (j : Int)) q0 q1
                    cases e2
                    obtain ⟨ad3, e3, h5⟩ := Kd.at_int h4 (v : Int) q2 q3
                    cases e3
                    have HNX := Aside0.mk hnext
                    simp only [Int.toNat_natCast] at h1 h5
                    clear hb2 q0 q1 q2 q3 hnext h3 h4
                    have HJ8 : Aside0 (j < 8) := ⟨by have h9 := HSL.out; omega⟩
                    by_cases hmin : rd (rdG T (rd o (j : Int))) (v : Int) < bj
                    · have HNX2 : Aside0 (leastTo T (v : Int) o (j + 1) = some (rd (rdG T (rd o (j : Int))) (v : Int))) := ⟨by rw [HNX.out]; unfold mn; rw [if_pos hmin]⟩
                      clear HNX
                      go_wp2
                      go_roundg (o.length - j - 1)
                      case measure => omega
                      case rel => exact ⟨j + 1, _, rfl, congrArg (Value.int .i64) (by have h9 := HJ8.out; first | omega | (unfold wrap64; omega)), by omega, by omega, HNX2, HSC, HO1, BK0, HB1⟩
                    · have HNX2 : Aside0 (leastTo T (v : Int) o (j + 1) = some bj) := ⟨by rw [HNX.out]; unfold mn; rw [if_neg hmin]⟩
                      clear HNX
                      go_wp2
                      go_roundg (o.length - j - 1)
                      case measure => omega
                      case rel => exact ⟨j + 1, _, rfl, congrArg (Value.int .i64) (by have h9 := HJ8.out; first | omega | (unfold wrap64; omega)), by omega, by omega, HNX2, HSC, HO1, BK0, HB1⟩
                  · have hjz := DL (show ¬ (j : Int) < (o.length : Int) by omega)
                    obtain rfl : j = o.length := by omega
                    have hbb : bj = b := by have h9 := HLB.out; rw [HLJ.out] at h9; exact Option.some.inj h9
                    subst hbb
                    obtain ⟨bo, hbo⟩ : ∃ bo, bo = o.contains (v : Int) := ⟨_, rfl⟩
                    rw [← hbo] at hkc
                    have HKC := Aside0.mk hkc
                    have HBO := Aside0.mk hbo
                    clear hkc hbo
                    by_cases hf : bj = 99999
                    · have hf1 := (dq hf).1
                      have hcL : Aside0 (c = 0) := ⟨by have h9 := HCB.out; rw [if_pos hf] at h9; exact h9.symm⟩
                      clear hf
                      cases bo with
                      | true =>
                        go_wp2_with (go_at_call 82; (with_reducible refine (slices_Contains_int_int.calls kc Ao co o (v : Int) true _ ?side1 ?side2 HKC.out).mono ?_); (case side1 => exact uD (Kd.R_reads' HO1.out).2.2); (case side2 => exact (Kd.R_reads' HO1.out).2.1); rintro e w' ⟨rfl, ⟨nd, rfl⟩⟩; replace HSC := Aside0.mk (Kd.C_drewN HSC.out nd); replace HO1 := Aside0.mk (Kd.R_drewN HO1.out nd); replace BK0 := Aside0.mk (blk_drewN BK0.out nd); replace HB1 := Aside0.mk (pw_below_drewN HB1.out nd))
                        go_roundg (n - v - 1)
                        case measure => omega
                        case rel => exact ⟨v + 1, p, mm, rfl, rfl, congrArg (Value.int .i64) (by first | omega | (unfold wrap64; omega)), by omega, by omega, ⟨by unfold pickN; rw [HPK.out]; simp only [Option.bind_some]; rw [HLV.out]; simp only [Option.bind_some]; rw [if_neg (by rw [← HBO.out]; simp)]⟩, HSC, HO1, BK0, HB1⟩
                      | false =>
                        by_cases hg : mm < 0
                        · have hg1 := dl hg
                          have HGT := Aside0.mk hg
                          clear hg
                          go_wp2_with (go_at_call 82; (with_reducible refine (slices_Contains_int_int.calls kc Ao co o (v : Int) false _ ?side1 ?side2 HKC.out).mono ?_); (case side1 => exact uD (Kd.R_reads' HO1.out).2.2); (case side2 => exact (Kd.R_reads' HO1.out).2.1); rintro e w' ⟨rfl, ⟨nd, rfl⟩⟩; replace HSC := Aside0.mk (Kd.C_drewN HSC.out nd); replace HO1 := Aside0.mk (Kd.R_drewN HO1.out nd); replace BK0 := Aside0.mk (blk_drewN BK0.out nd); replace HB1 := Aside0.mk (pw_below_drewN HB1.out nd))
                          go_roundg (n - v - 1)
                          case measure => omega
                          case rel => exact ⟨v + 1, (v : Int), 0, rfl, rfl, congrArg (Value.int .i64) (by first | omega | (unfold wrap64; omega)), by omega, by omega, ⟨by unfold pickN; rw [HPK.out]; simp only [Option.bind_some]; rw [HLV.out]; simp only [Option.bind_some]; rw [if_pos ⟨HBO.out.symm, by rw [hcL.out]; exact HGT.out⟩, hcL.out]⟩, HSC, HO1, BK0, HB1⟩
                        · have hg1 := DL hg
                          have HGT := Aside0.mk hg
                          clear hg
                          go_wp2_with (go_at_call 82; (with_reducible refine (slices_Contains_int_int.calls kc Ao co o (v : Int) false _ ?side1 ?side2 HKC.out).mono ?_); (case side1 => exact uD (Kd.R_reads' HO1.out).2.2); (case side2 => exact (Kd.R_reads' HO1.out).2.1); rintro e w' ⟨rfl, ⟨nd, rfl⟩⟩; replace HSC := Aside0.mk (Kd.C_drewN HSC.out nd); replace HO1 := Aside0.mk (Kd.R_drewN HO1.out nd); replace BK0 := Aside0.mk (blk_drewN BK0.out nd); replace HB1 := Aside0.mk (pw_below_drewN HB1.out nd))
                          go_roundg (n - v - 1)
                          case measure => omega
                          case rel => exact ⟨v + 1, p, mm, rfl, rfl, congrArg (Value.int .i64) (by first | omega | (unfold wrap64; omega)), by omega, by omega, ⟨by unfold pickN; rw [HPK.out]; simp only [Option.bind_some]; rw [HLV.out]; simp only [Option.bind_some]; rw [if_neg (fun h9 => by have h8 := HGT.out; have h7 := hcL.out; have h6 := h9.2; omega)]⟩, HSC, HO1, BK0, HB1⟩
                    · have hf1 := (dQ hf).1
                      have hcL : Aside0 (c = bj) := ⟨by have h9 := HCB.out; rw [if_neg hf] at h9; exact h9.symm⟩
                      clear hf
                      cases bo with
                      | true =>
                        go_wp2_with (go_at_call 82; (with_reducible refine (slices_Contains_int_int.calls kc Ao co o (v : Int) true _ ?side1 ?side2 HKC.out).mono ?_); (case side1 => exact uD (Kd.R_reads' HO1.out).2.2); (case side2 => exact (Kd.R_reads' HO1.out).2.1); rintro e w' ⟨rfl, ⟨nd, rfl⟩⟩; replace HSC := Aside0.mk (Kd.C_drewN HSC.out nd); replace HO1 := Aside0.mk (Kd.R_drewN HO1.out nd); replace BK0 := Aside0.mk (blk_drewN BK0.out nd); replace HB1 := Aside0.mk (pw_below_drewN HB1.out nd))
                        go_roundg (n - v - 1)
                        case measure => omega
                        case rel => exact ⟨v + 1, p, mm, rfl, rfl, congrArg (Value.int .i64) (by first | omega | (unfold wrap64; omega)), by omega, by omega, ⟨by unfold pickN; rw [HPK.out]; simp only [Option.bind_some]; rw [HLV.out]; simp only [Option.bind_some]; rw [if_neg (by rw [← HBO.out]; simp)]⟩, HSC, HO1, BK0, HB1⟩
                      | false =>
                        by_cases hg : mm < bj
                        · have hg1 := dl hg
                          have HGT := Aside0.mk hg
                          clear hg
                          go_wp2_with (go_at_call 82; (with_reducible refine (slices_Contains_int_int.calls kc Ao co o (v : Int) false _ ?side1 ?side2 HKC.out).mono ?_); (case side1 => exact uD (Kd.R_reads' HO1.out).2.2); (case side2 => exact (Kd.R_reads' HO1.out).2.1); rintro e w' ⟨rfl, ⟨nd, rfl⟩⟩; replace HSC := Aside0.mk (Kd.C_drewN HSC.out nd); replace HO1 := Aside0.mk (Kd.R_drewN HO1.out nd); replace BK0 := Aside0.mk (blk_drewN BK0.out nd); replace HB1 := Aside0.mk (pw_below_drewN HB1.out nd))
                          go_roundg (n - v - 1)
                          case measure => omega
                          case rel => exact ⟨v + 1, (v : Int), bj, rfl, rfl, congrArg (Value.int .i64) (by first | omega | (unfold wrap64; omega)), by omega, by omega, ⟨by unfold pickN; rw [HPK.out]; simp only [Option.bind_some]; rw [HLV.out]; simp only [Option.bind_some]; rw [if_pos ⟨HBO.out.symm, by rw [hcL.out]; exact HGT.out⟩, hcL.out]⟩, HSC, HO1, BK0, HB1⟩
                        · have hg1 := DL hg
                          have HGT := Aside0.mk hg
                          clear hg
                          go_wp2_with (go_at_call 82; (with_reducible refine (slices_Contains_int_int.calls kc Ao co o (v : Int) false _ ?side1 ?side2 HKC.out).mono ?_); (case side1 => exact uD (Kd.R_reads' HO1.out).2.2); (case side2 => exact (Kd.R_reads' HO1.out).2.1); rintro e w' ⟨rfl, ⟨nd, rfl⟩⟩; replace HSC := Aside0.mk (Kd.C_drewN HSC.out nd); replace HO1 := Aside0.mk (Kd.R_drewN HO1.out nd); replace BK0 := Aside0.mk (blk_drewN BK0.out nd); replace HB1 := Aside0.mk (pw_below_drewN HB1.out nd))
                          go_roundg (n - v - 1)
                          case measure => omega
                          case rel => exact ⟨v + 1, p, mm, rfl, rfl, congrArg (Value.int .i64) (by first | omega | (unfold wrap64; omega)), by omega, by omega, ⟨by unfold pickN; rw [HPK.out]; simp only [Option.bind_some]; rw [HLV.out]; simp only [Option.bind_some]; rw [if_neg (fun h9 => by have h8 := HGT.out; have h7 := hcL.out; have h6 := h9.2; omega)]⟩, HSC, HO1, BK0, HB1⟩
              · have hvz : decide ((v : Int) < a0_0) = false := DL (by have h9 := HNZ.out; omega)
                have hvn2 : v = n := by omega
                have hpm3 : pm = (p, mm) := by have h9 := HPM.out; rw [← hvn2, HPK.out] at h9; exact (Option.some.inj h9).symm
                subst hpm3
                clear hvn2
                go_wp2_with ((with_reducible refine gate_builtin (b := .append) (xs := #[.tmp 72, .tmp 74]) rfl ?_); at_builtin; refine Kd.R_append (Kd.int .i64) (w0 := w7) w7.heap.size rfl (.tmp 72) (.tmp 74) 26 3 (.int .i64 0) 8 rfl Try.underlying26 info3 rfl (by decide) (by omega) (.slice Ao o.length co) o p [.int .i64 p] (fun _ => True) (fun _ => False) rfl rfl ?aP (fun _ hk => hk.elim) ?aF ?aO ?aB ?aS ?aL ?_; (case aP => exact rfl); (case aF => exact fun _ _ => trivial); (case aO => exact HO1.out); (case aB => exact HB1.out); (case aS => exact HB1.out.size); (case aL => have h9 := HOL.out; omega); intro v1 w9 ho hb hg hat; replace BK0 := Aside0.mk (blk_grown BK0.out hg (fun e => by have h9 := Kd.R_base HO1.out gb101 e.symm; have h8 := HLT.out; omega)); replace HO1 := Aside0.mk ho; replace HB1 := Aside0.mk hb; clear ho hb hg hat)
                obtain ⟨A8, c8, e8⟩ := Kd.R_slice HO1.out
                subst e8
                go_roundg (m - i - 1)
                case measure => omega
                case rel => exact ⟨i + 1, o ++ [p], A8, c8, rfl, by omega, by omega, HO2, ⟨by have h9 := HOL.out; rw [List.length_append, h9]; rfl⟩, HO1, BK0, HB1⟩
        · have hltz : decide ((o.length : Int) < a1) = false := DL (by have h9 := HMZ.out; have h8 := HOL.out; omega)
          go_wp2
          go_ret
          have e9 : o = r := by
            have h9 := HOO.out
            rw [show i = m by omega, HO.out] at h9
            exact (Option.some.inj h9).symm
          exact ⟨_, rfl, by rw [← e9]; exact Kd.R_lower HO1.out (below_size HB.out), below_step HB.out HB1.out⟩
end Go.Proofs.Ytblpdfgplifccaa.P
