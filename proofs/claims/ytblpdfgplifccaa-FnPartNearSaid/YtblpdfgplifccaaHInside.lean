/- Contract: (Net).inside: slices.DeleteFunc at arcs, handed a literal that captures a row. -/
import Derived.Test.YtblpdfgplifccaaHPart
import Derived.Lib.SliceRun
import Derived.Laws.IdiomCopy
set_option linter.unusedVariables false
set_option linter.unusedSimpArgs false
namespace Go.Proofs.Ytblpdfgplifccaa.P
open Go.RowKit Go.Proofs.YtblpdfgplifccaaV.PrintWords Go.Proofs.YtblpdfgplifccaaV.PrintLast Go.Proofs.YtblpdfgplifccaaV.PrintMore
abbrev Arc_ := S33
theorem zeroCells5 (v : Value) (n : Nat) : (Builtin.zeroCells #[v, v, v, v, v] n).toList = List.replicate (5 * n) v := by
  apply List.ext_getElem
  · simp [Builtin.zeroCells]
    omega
  · intro i h1 h2
    simp [Builtin.zeroCells]
    have : i % 5 < 5 := Nat.mod_lt _ (by decide)
    rcases (by omega : i % 5 = 0 ∨ i % 5 = 1 ∨ i % 5 = 2 ∨ i % 5 = 3 ∨ i % 5 = 4) with h | h | h | h | h <;> simp [h]
theorem run_clear_arc (w : World) (ty : TypeId) (b o n c : Nat) (hn : 0 < n) (hc : ∀ j, j < 5 * n → (w.cell? ⟨b, o + j, none⟩).isSome = true) (hf : ∀ j, j < 5 * n → w.frozen? ⟨b, o + j, none⟩ = false) :
    (Builtin.clear_ #[23] ty #[.slice (some ⟨b, o, none⟩) n c]).run Try.prog w = .ok (.tuple #[]) (w.setCells b o (List.replicate (5 * n) (.int .i64 0))) := by
  have hzc := zeroCells5 (.int .i64 0) n
  have hst := run_storeCells_cells (P := Try.prog) b o (List.replicate (5 * n) (.int .i64 0)) 0 w (by simpa using hc) (by simpa using hf) (by intro v hv'; rw [List.eq_of_mem_replicate hv']; rfl)
  simp only [Nat.add_zero] at hst
  have hv : ∀ w, (zeroValue 33).run Try.prog w = .ok (.agg #[.int .i64 0, .int .i64 0, .int .i64 0, .int .i64 0, .int .i64 0]) w := Try.zeroValue33
  have ht := Try.underlying23
  obtain ⟨m, rfl⟩ : ∃ m, n = m + 1 := ⟨n - 1, by omega⟩
  have hcs : (Value.agg #[.int .i64 0, .int .i64 0, .int .i64 0, .int .i64 0, .int .i64 0]).cells = #[.int .i64 0, .int .i64 0, .int .i64 0, .int .i64 0, .int .i64 0] := rfl
  simp [Builtin.clear_, run_underlying ht, hv, hcs, hzc, hst]
theorem R_prefix {W : World} {base g n cap : Nat} {ok : Nat → Prop} {dk : List Arc_} (h : Kd.R k33 33 W base ok (.slice (some ⟨g, 0, none⟩) n cap) dk) (i : Nat) (hi : i ≤ n) :
    Kd.R k33 33 W base ok (.slice (some ⟨g, 0, none⟩) i cap) (dk.take i) := by
  have hn := (Kd.R_reads' h).1
  obtain ⟨h0, inner, ⟨hl, ho⟩, hr⟩ := h
  have hsz : (k33).sz = 5 := rfl
  have hlen : (dk.take i).length = i := by rw [List.length_take]; omega
  refine ⟨h0, inner.take (i * 5), ?_, ?_⟩
  · rw [hlen]
    rcases ho with ⟨ho, _⟩ | ⟨g', cap', cur, e, hb, hg, hnc, hcm, hcs, ht⟩
    · cases ho
    · simp only [Value.slice.injEq, Option.some.injEq, Addr.mk.injEq, and_true, true_and] at e
      obtain ⟨rfl, e2, rfl⟩ := e
      refine ⟨by rw [List.length_take, hl, hsz]; omega, .inr ⟨g, cap, cur, rfl, hb, hg, by omega, hcm, hcs, ?_⟩⟩
      rw [← ht, List.take_take, hsz]
      congr 1
      omega
  · refine ⟨by rw [List.length_take, hlen, hl, hsz]; omega, fun j p hj => ?_⟩
    have hji : j < i := by have := (List.getElem?_eq_some_iff.1 hj).1; omega
    rw [List.getElem?_take, if_pos hji] at hj
    have := hr.2 j p hj
    rw [hsz] at this ⊢
    have e : ((inner.take (i * 5)).drop (j * 5)).take 5 = (inner.drop (j * 5)).take 5 := by
      rw [List.drop_take, List.take_take]
      congr 1
      omega
    rw [e]
    exact this
theorem R_beyond {base g n cap : Nat} {ok : Nat → Prop} {dk : List Arc_} (vs : List Value) : ∀ {W : World} (o : Nat), n * 5 ≤ o → Kd.R k33 33 W base ok (.slice (some ⟨g, 0, none⟩) n cap) dk →
    Kd.R k33 33 (W.setCells g o vs) base ok (.slice (some ⟨g, 0, none⟩) n cap) dk ∧ W.grownBy (W.setCells g o vs) (some g) := by
  induction vs with
  | nil => exact fun o _ h => ⟨h, ⟨rfl, rfl, rfl, Nat.le_refl _, fun k _ _ => rfl⟩⟩
  | cons v vs ih =>
    intro W o ho h
    have hn := (Kd.R_reads' h).1
    have h1 : Kd.R k33 33 (W.setCell ⟨g, o, none⟩ v) base ok (.slice (some ⟨g, 0, none⟩) n cap) dk ∧ W.grownBy (W.setCell ⟨g, o, none⟩ v) (some g) := by
      obtain ⟨h0, inner, hw, hr⟩ := h
      have hsz : (k33).sz = 5 := rfl
      have hl := hw.1
      rw [← hn] at hw
      have hs := hw.stored o v
      refine ⟨⟨h0, inner, ?_, ⟨hr.1, fun j p hj => ?_⟩⟩, hs.2⟩
      · have e : inner.set o v = inner := List.set_eq_of_length_le (by rw [hl, hsz, ← hn]; omega)
        have := hs.1
        rw [e, hn] at this
        rw [hn]
        exact this
      · rw [k33_openM (hr.2 j p hj)]
        exact k33_mkM _ _ _ p
    have h2 := ih (o + 1) (by omega) h1.1
    refine ⟨h2.1, ?_⟩
    have a := h1.2
    have b := h2.2
    exact ⟨b.os.trans a.os, b.tape.trans a.tape, b.output.trans a.output, Nat.le_trans a.size b.size, fun k hk hne => (b.block k (Nat.lt_of_lt_of_le hk a.size) hne).trans (a.block k hk hne)⟩
theorem grown_trans {a b c : World} {r : Option Nat} (h : a.grownBy b r) (k : b.grownBy c r) : a.grownBy c r :=
  ⟨k.os.trans h.os, k.tape.trans h.tape, k.output.trans h.output, Nat.le_trans h.size k.size, fun i hi hne => (k.block i (Nat.lt_of_lt_of_le hi h.size) hne).trans (h.block i hi hne)⟩
theorem grown_below {a b : World} {r : Option Nat} (h : Below a.heap.size a b) : a.grownBy b r := ⟨h.os, h.tape, h.output, h.size, fun i hi _ => h.block i hi⟩

theorem grown_set {w W : World} {r : Option Nat} {gb : Nat} (h : w.grownBy W r) (hb : w.heap.size ≤ gb) (o : Nat) (v : Value) : w.grownBy (W.setCell ⟨gb, o, none⟩ v) r :=
  ⟨h.os, h.tape, h.output, by rw [show (W.setCell ⟨gb, o, none⟩ v).heap.size = W.heap.size by simp]; exact h.size, fun k hk hne => (heap_setCell_other W ⟨gb, o, none⟩ k v (fun e => by have e2 : k = gb := e; omega)).trans (h.block k hk hne)⟩
theorem filter_next {p : Arc_ → Bool} {l : List Arc_} {j : Nat} {x : Arc_} (h : l[j]? = some x) : (l.take (j + 1)).filter (fun y => !p y) = (l.take j).filter (fun y => !p y) ++ (if p x then [] else [x]) := by
  rw [List.take_add_one, h, List.filter_append]
  cases hp : p x <;> simp [hp]
theorem take_set_at {l : List Arc_} {i : Nat} {x : Arc_} (h : i < l.length) : (l.set i x).take (i + 1) = l.take i ++ [x] := by
  rw [List.take_add_one, List.take_set, List.set_eq_of_length_le (by rw [List.length_take]; omega), List.getElem?_set_self h]
  rfl
theorem row_cells {W : World} {base g n cap : Nat} {ok : Nat → Prop} {dk : List Arc_} (h : Kd.R k33 33 W base ok (.slice (some ⟨g, 0, none⟩) n cap) dk) (o : Nat) (ho : o < n * 5) : (W.cell? ⟨g, o, none⟩).isSome = true ∧ W.frozen? ⟨g, o, none⟩ = false := by
  have hn := (Kd.R_reads' h).1
  obtain ⟨h0, inner, ⟨hl, hw⟩, hr⟩ := h
  rcases hw with ⟨hw, _⟩ | ⟨g', cap', cur, e, hb, hg, hnc, hcm, hcs, ht⟩
  · cases hw
  · simp only [Value.slice.injEq, Option.some.injEq, Addr.mk.injEq, and_true, true_and] at e
    obtain ⟨rfl, e2, rfl⟩ := e
    have hsz : (k33).sz = 5 := rfl
    rw [hsz] at hcs
    refine ⟨?_, blk_frozen hg o⟩
    rw [cell_of_row W g o cur _ (0, 0) hg, Array.getElem?_eq_getElem (by have := Nat.mul_le_mul_right 5 hnc; omega)]
    rfl

set_option maxHeartbeats 4000000 in
set_option maxRecDepth 100000 in
theorem deleteFunc_arc (q : Arc_ → Bool) (fn : Nat) (lb : Array Value) (eg : ∀ args w, (callFunc fn args).run Try.prog w = .ok (.enter fn args) w)
    (A : Option Addr) (cap : Nat) (l : List Arc_) (w : World) (base : Nat) (ok : Nat → Prop) (HR : Kd.R k33 33 w base ok (.slice A l.length cap) l)
    (hp : ∀ (W : World) (x : Arc_), x ∈ l → w.grownBy W ((.slice A l.length cap : Value).ownBlock) → Calls Try.prog fn (#[.agg #[.int .i64 x.f0, .int .i64 x.f1, .int .i64 x.f2, .int .i64 x.f3, .int .i64 x.f4]] ++ lb) W fun e w' => e = .returned (.bool (q x)) ∧ Below W.heap.size W w') :
    Calls Try.prog 106 #[.slice A l.length cap, .func (.func fn) #[] lb] w fun e w' => ∃ v : Value, e = .returned v ∧ Kd.R k33 33 w' base ok v (l.filter fun x => !q x) ∧ w.grownBy w' ((.slice A l.length cap : Value).ownBlock) := by
  have hC := (Kd.R_reads' HR).2.2
  have hm : l.length ≤ 9223372036854775807 := hC.2.1
  have hcap := (Kd.R_reads' HR).2.1
  have hIF := Aside0.mk (indexFunc_arc q fn lb eg A cap l w hC (fun W x hx hb => hp W x hx (grown_below hb)))
  have HP := Aside0.mk hp
  have HRA := Aside0.mk HR
  clear hp HR hC
  have hu := Try.underlying33
  have hu23 := Try.underlying23
  cases hf : l.findIdx? q with
  | none =>
    rw [List.findIdx?_eq_none_iff] at hf
    have hidx : idxOf q l = -1 := idxOf_miss (fun j hj => by simpa using hf l[j] (List.getElem_mem hj))
    have hfil : Aside0 ((l.filter fun x => !q x) = l) := ⟨List.filter_eq_self.2 (fun x hx => by simpa using hf x hx)⟩
    rw [hidx] at hIF
    clear hf hidx
    go_enter Try.func106, Try.ntmps106
    go_wp2_with (go_at_call 103; refine hIF.out.mono ?_; rintro e w' ⟨rfl, hb⟩)
    go_ret
    exact ⟨_, rfl, by rw [hfil.out]; exact Kd.R_below HRA.out hb, grown_below hb⟩
  | some i0 =>
    obtain ⟨hi0, hq0, hbefore⟩ := List.findIdx?_eq_some_iff_getElem.1 hf
    have hidx : idxOf q l = (i0 : Int) := idxOf_hit hi0 hq0 (fun j hj hji => by simpa using hbefore j hji)
    rw [hidx] at hIF
    obtain ⟨g, cap', hv, hbase, hglt, cells0, hcells0⟩ := Kd.R_form HRA.out (by omega)
    simp only [Value.slice.injEq, true_and] at hv
    obtain ⟨rfl, rfl⟩ := hv
    have hstart : Aside0 (l.take i0 = (l.take (i0 + 1)).filter fun x => !q x) := by
      refine ⟨?_⟩
      rw [List.take_add_one, List.filter_append, List.getElem?_eq_getElem hi0]
      have e1 : (l.take i0).filter (fun x => !q x) = l.take i0 := List.filter_eq_self.2 (fun x hx => by
        obtain ⟨j, hj, rfl⟩ := List.getElem_of_mem hx
        rw [List.getElem_take]
        have := hbefore j (by rw [List.length_take] at hj; omega)
        simpa using this)
      rw [e1]
      simp [hq0]
    clear hf hidx hq0 hbefore hcells0
    generalize hn : l.length = n at *
    have HN := Aside0.mk hn
    clear hn
    go_enter Try.func106, Try.ntmps106
    have e1 := dQ (show ¬ ((i0 : Int) = -1) by omega)
    obtain ⟨e1a, e1b⟩ := e1
    go_wp2_with (go_at_call 103; refine hIF.out.mono ?_; rintro e w1 ⟨rfl, hb⟩)
    go_loopg [5, 6, 7] (n + 1) (fun gg s5 s6 _ wr => ∃ (i j : Nat) (dk : List Arc_), s5 = .int .i64 (i : Int) ∧ s6 = .int .i64 (j : Int) ∧ i < j ∧ j ≤ n ∧ n + 1 - j ≤ gg ∧ Aside0 (dk.length = n) ∧ Aside0 (∀ t, j ≤ t → dk[t]? = l[t]?) ∧ Aside0 (dk.take i = (l.take j).filter fun x => !q x) ∧ Aside0 (Kd.R k33 33 wr base ok (.slice (some ⟨g, 0, none⟩) n cap) dk) ∧ Aside0 (w.grownBy wr (some g)))
    case atStart => exact ⟨i0, i0 + 1, l, rfl, congrArg (Value.int .i64) (by omega), by omega, by omega, by omega, HN, ⟨fun _ _ => rfl⟩, hstart, ⟨Kd.R_below HRA.out hb⟩, ⟨grown_below hb⟩⟩
    case round =>
      obtain ⟨i, j, dk, rfl, rfl, hij, hjn, hgg, DL, DT, DF, HO, HG⟩ := hrel
      by_cases hlt : j < n
      · have hltz := dl (show (j : Int) < (n : Int) by omega)
        have hll : l.length = n := HN.out
        have hdl : dk.length = n := DL.out
        obtain ⟨ad, e1, h0, h1, h2, h3, h4⟩ := at_T33 (Kd.R_reads' HO.out).2.2 (j : Int) (by omega) (by omega)
        simp only [Int.toNat_natCast] at h0 h1 h2 h3 h4
        cases e1
        obtain ⟨x, hx0⟩ : ∃ x, l[j]? = some x := ⟨_, List.getElem?_eq_getElem (by omega)⟩
        have hx : rd_T33 dk (j : Int) = x := by
          rw [rd_T33_at dk j (by omega)]
          have := DT.out j (Nat.le_refl _)
          rw [hx0, List.getElem?_eq_getElem (by omega)] at this
          exact Option.some.inj this
        rw [hx] at h0 h1 h2 h3 h4
        have hadd : ∀ k, (⟨g, 0, none⟩ : Addr).add k = ⟨g, k, none⟩ := fun k => by unfold Addr.add; split <;> simp_all
        simp only [hadd, Nat.zero_add, Nat.add_zero] at h0 h1 h2 h3 h4
        clear hadd
        have HX := Aside0.mk hx0
        have HM := Aside0.mk (List.mem_of_getElem? hx0)
        clear hx hx0 hll hdl
        have hp0 := eq_true (show 0 ≤ (j : Int) by omega)
        have hq0 := eq_true (show (j : Int) < (n : Int) by omega)
        go_wp2_with (first | ((with_reducible refine gate_dst (N := 7) rfl ?_); refine be (cs := #[.int .i64 0, .int .i64 0, .int .i64 0, .int .i64 0, .int .i64 0]) (t := 33) ?_; intro gb hg w2 hbox hb; have BK := Aside0.mk (hbox); have hgb : Aside0 (gb ≠ g) := ⟨by rw [hg]; exact Nat.ne_of_gt (Kd.R_lt HO.out g rfl)⟩; replace h0 := (hb.cell (World.block_lt_of_cell? _ _ h0)).trans h0; replace h1 := (hb.cell (World.block_lt_of_cell? _ _ h1)).trans h1; replace h2 := (hb.cell (World.block_lt_of_cell? _ _ h2)).trans h2; replace h3 := (hb.cell (World.block_lt_of_cell? _ _ h3)).trans h3; replace h4 := (hb.cell (World.block_lt_of_cell? _ _ h4)).trans h4; replace HO := Aside0.mk (Kd.R_below (Kd.R_elderB (ur HO) gb (Nat.le_of_eq hg.symm)) hb); have hgb2 : Aside0 (w.heap.size ≤ gb) := ⟨by rw [hg]; exact HG.out.size⟩; replace HG := Aside0.mk (grown_trans HG.out (grown_below hb)); clear hb hbox hg; obtain ⟨z0, z1, z2, z3, z4, f0, f1, f2, f3, f4⟩ := bc5 BK))
        have n0_ : Aside0 (((((((w2.setCell ⟨gb, 0, none⟩ (.int .i64 x.f0)).setCell ⟨gb, 1, none⟩ (.int .i64 x.f1)).setCell ⟨gb, 2, none⟩ (.int .i64 x.f2)).setCell ⟨gb, 3, none⟩ (.int .i64 x.f3)).setCell ⟨gb, 4, none⟩ (.int .i64 x.f4))).heap[gb]? = some (.cells #[.int .i64 x.f0, .int .i64 x.f1, .int .i64 x.f2, .int .i64 x.f3, .int .i64 x.f4] 33 (0, 0))) := ⟨pu5 (.int .i64 0) (.int .i64 0) (.int .i64 0) (.int .i64 0) (.int .i64 0) BK.out⟩
        have n1_ := Aside0.mk ((Kd.R_far (p := ⟨gb, 4, none⟩) (Kd.R_far (p := ⟨gb, 3, none⟩) (Kd.R_far (p := ⟨gb, 2, none⟩) (Kd.R_far (p := ⟨gb, 1, none⟩) (Kd.R_far (p := ⟨gb, 0, none⟩) (Kd.R_mono HO.out (fun k_ hk => (⟨hk, hk.2⟩ : _ ∧ k_ ≠ gb))) (fun _ hk => hk.2) (.int .i64 x.f0)) (fun _ hk => hk.2) (.int .i64 x.f1)) (fun _ hk => hk.2) (.int .i64 x.f2)) (fun _ hk => hk.2) (.int .i64 x.f3)) (fun _ hk => hk.2) (.int .i64 x.f4)))
        have n2_ : Aside0 (w.grownBy ((((((w2.setCell ⟨gb, 0, none⟩ (.int .i64 x.f0)).setCell ⟨gb, 1, none⟩ (.int .i64 x.f1)).setCell ⟨gb, 2, none⟩ (.int .i64 x.f2)).setCell ⟨gb, 3, none⟩ (.int .i64 x.f3)).setCell ⟨gb, 4, none⟩ (.int .i64 x.f4))) (some g)) := ⟨(grown_set (grown_set (grown_set (grown_set (grown_set HG.out hgb2.out 0 (.int .i64 x.f0)) hgb2.out 1 (.int .i64 x.f1)) hgb2.out 2 (.int .i64 x.f2)) hgb2.out 3 (.int .i64 x.f3)) hgb2.out 4 (.int .i64 x.f4))⟩
        clear BK HO HG h0 h1 h2 h3 h4 z0 z1 z2 z3 z4 f0 f1 f2 f3 f4
        generalize (((((w2.setCell ⟨gb, 0, none⟩ (.int .i64 x.f0)).setCell ⟨gb, 1, none⟩ (.int .i64 x.f1)).setCell ⟨gb, 2, none⟩ (.int .i64 x.f2)).setCell ⟨gb, 3, none⟩ (.int .i64 x.f3)).setCell ⟨gb, 4, none⟩ (.int .i64 x.f4)) = w3 at n0_ n1_ n2_ ⊢
        have hcall := HP.out w3 x HM.out n2_.out
        cases hq : q x with
        | true =>
          rw [hq] at hcall
          have HQ := Aside0.mk hq
          clear hq
          refine hcall.mono ?_
          rintro e w4 ⟨rfl, hb4⟩
          have HO := Aside0.mk (Kd.R_below n1_.out hb4)
          have HG := Aside0.mk (grown_trans n2_.out (grown_below hb4))
          clear n0_ n1_ n2_ hb4
          go_wp2
          go_roundg (n - j)
          case measure => omega
          case rel => exact ⟨i, j + 1, dk, rfl, congrArg (Value.int .i64) (by omega), by omega, by omega, by omega, DL, ⟨fun t ht => DT.out t (by omega)⟩, ⟨by rw [filter_next HX.out, DF.out, HQ.out]; simp⟩, ⟨Kd.R_mono HO.out (fun _ hk => hk.1.1)⟩, HG⟩
        | false =>
          rw [hq] at hcall
          have HQ := Aside0.mk hq
          clear hq
          refine hcall.mono ?_
          rintro e w4 ⟨rfl, hb4⟩
          have BK := bb n0_ hb4
          have HO := Aside0.mk (Kd.R_mono (ok' := ok) (Kd.R_below n1_.out hb4) (fun _ hk => hk.1.1))
          have HG := Aside0.mk (grown_trans n2_.out (grown_below hb4))
          clear n0_ n1_ n2_ hb4
          obtain ⟨z0, z1, z2, z3, z4, f0, f1, f2, f3, f4⟩ := bc5 BK
          obtain ⟨ce, hcl, hM, hcc, hfr⟩ := Kd.R_elem HO.out z33 (i : Int) (by omega) (by omega)
          obtain rfl := k33_openM hM
          have HP2 := Aside0.mk (Kd.R_seg HO.out (i : Int) (by omega) (by omega) (seg := [.int .i64 x.f0, .int .i64 x.f1, .int .i64 x.f2, .int .i64 x.f3, .int .i64 x.f4]) (j := 0) hcl hcc (show 5 ≤ 5 from by decide) (x' := x) (k33_mkM _ _ _ x) (fun _ hk => hk))
          have hx0 := hcc 0 _ rfl
          simp only [show (k33).sz = 5 from rfl, Nat.mul_one, Nat.add_zero, Int.toNat_natCast] at hx0
          have hf0 := hfr 0
          simp only [show (k33).sz = 5 from rfl, Nat.mul_one, Nat.add_zero, Int.toNat_natCast] at hf0 
          have hx1 := hcc 1 _ rfl
          simp only [show (k33).sz = 5 from rfl, Nat.mul_one, Nat.add_zero, Int.toNat_natCast] at hx1
          have hf1 := hfr 1
          simp only [show (k33).sz = 5 from rfl, Nat.mul_one, Nat.add_zero, Int.toNat_natCast] at hf1 
          have hx2 := hcc 2 _ rfl
          simp only [show (k33).sz = 5 from rfl, Nat.mul_one, Nat.add_zero, Int.toNat_natCast] at hx2
          have hf2 := hfr 2
          simp only [show (k33).sz = 5 from rfl, Nat.mul_one, Nat.add_zero, Int.toNat_natCast] at hf2 
          have hx3 := hcc 3 _ rfl
          simp only [show (k33).sz = 5 from rfl, Nat.mul_one, Nat.add_zero, Int.toNat_natCast] at hx3
          have hf3 := hfr 3
          simp only [show (k33).sz = 5 from rfl, Nat.mul_one, Nat.add_zero, Int.toNat_natCast] at hf3 
          have hx4 := hcc 4 _ rfl
          simp only [show (k33).sz = 5 from rfl, Nat.mul_one, Nat.add_zero, Int.toNat_natCast] at hx4
          have hf4 := hfr 4
          simp only [show (k33).sz = 5 from rfl, Nat.mul_one, Nat.add_zero, Int.toNat_natCast] at hf4
          clear hcl hcc hfr hM
          have hpi := eq_true (show 0 ≤ (i : Int) by omega)
          have hqi := eq_true (show (i : Int) < (n : Int) by omega)
          go_wp2_with (first | ((with_reducible refine gate_store (t := 33) (p := 33) rfl ?_); refine store_event (t := 33) (p := 33) (v := ?vo_) (w1 := (((((w4.setCell ⟨g, i * 5, none⟩ (.int .i64 x.f0)).setCell ⟨g, i * 5 + 1, none⟩ (.int .i64 x.f1)).setCell ⟨g, i * 5 + 2, none⟩ (.int .i64 x.f2)).setCell ⟨g, i * 5 + 3, none⟩ (.int .i64 x.f3)).setCell ⟨g, i * 5 + 4, none⟩ (.int .i64 x.f4))) ?hg ?ho ?hn ?hr ?_; (case ho => rfl); (case hg => rfl); (case hn => rfl); (case hr => first | (go_simp; done) | (go_simp; rfl)); intro w5 hw; have HO5 : Aside0 (Kd.R k33 33 w5 base ok (.slice (some ⟨g, 0, none⟩) n cap) (dk.set i x)) := ⟨by rw [hw]; exact HP2.out.1⟩; have HG5 : Aside0 (w.grownBy w5 (some g)) := ⟨by rw [hw]; exact grown_trans HG.out HP2.out.2⟩; clear HP2 HO HG hw BK))
          go_roundg (n - j)
          case measure => omega
          case rel => exact ⟨i + 1, j + 1, dk.set i x, congrArg (Value.int .i64) (by omega), congrArg (Value.int .i64) (by omega), by omega, by omega, by omega, ⟨by rw [List.length_set]; exact DL.out⟩, ⟨fun t ht => by rw [List.getElem?_set_ne (by omega)]; exact DT.out t (by omega)⟩, ⟨by rw [filter_next HX.out, take_set_at (by have := DL.out; omega), DF.out, HQ.out]; simp⟩, HO5, HG5⟩
      · have hjn' : j = n := by omega
        subst hjn'
        have hltz := _root_.Go.Proofs.YtblpdfgplifccaaV.PrintWords.DL (show ¬ (j : Int) < (j : Int) by omega)
        have hcells := row_cells HO.out
        have hcl : ∀ ty, (Builtin.clear_ #[23] ty #[.slice (some ⟨g, i * 5, none⟩) (j - i) (cap - i)]).run Try.prog wr = .ok (.tuple #[]) (wr.setCells g (i * 5) (List.replicate (5 * (j - i)) (.int .i64 0))) :=
          fun ty => run_clear_arc wr ty g (i * 5) (j - i) (cap - i) (by omega) (fun k hk => (hcells _ (by omega)).1) (fun k hk => (hcells _ (by omega)).2)
        have hR := R_beyond (List.replicate (5 * (j - i)) (.int .i64 0)) (i * 5) (Nat.le_refl _) (R_prefix HO.out i (by omega))
        have hR1 := Aside0.mk hR.1
        have hR2 := Aside0.mk hR.2
        clear hR hcells
        generalize (wr.setCells g (i * 5) (List.replicate (5 * (j - i)) (.int .i64 0))) = w9 at hcl hR1 hR2
        have hpi := eq_true (show 0 ≤ (i : Int) by omega)
        have hqi := eq_true (show (i : Int) ≤ (j : Int) by omega)
        have hqc := eq_true (show (j : Int) ≤ (cap : Int) by omega)
        go_wp2
        go_ret
        have hd := DF.out
        rw [List.take_of_length_le (l := l) (i := j) (by have := HN.out; omega)] at hd
        exact ⟨_, rfl, by rw [← hd]; exact hR1.out, grown_trans HG.out hR2.out⟩

def cutB (part : List Int) (x : Arc_) : Bool := rd part x.f0 != rd part x.f1
set_option maxHeartbeats 2000000 in
theorem inside1_calls (x : Arc_) (A : Option Addr) (c : Nat) (part : List Int) (gp : Nat) (W : World) (hp : W.cell? ⟨gp, 0, none⟩ = some (.slice A part.length c))
    (hr : Kd.C (Kd.int .i64) W A part.length part) (h0 : 0 ≤ x.f0 ∧ x.f0 < part.length) (h1 : 0 ≤ x.f1 ∧ x.f1 < part.length) :
    Calls Try.prog 107 #[.agg #[.int .i64 x.f0, .int .i64 x.f1, .int .i64 x.f2, .int .i64 x.f3, .int .i64 x.f4], .pointer (some ⟨gp, 0, none⟩)] W fun e w' => e = .returned (.bool (cutB part x)) ∧ Below W.heap.size W w' := by
  have hu := Try.underlying33
  obtain ⟨ad, e0, g0⟩ := Kd.at_int hr x.f0 h0.1 h0.2
  obtain ⟨ad1, e1, g1⟩ := Kd.at_int hr x.f1 h1.1 h1.2
  cases e0
  cases e1
  have HB := Aside0.mk (Below.refl W.heap.size W)
  have p0 := eq_true h0.1
  have q0 := eq_true h0.2
  have p1 := eq_true h1.1
  have q1 := eq_true h1.2
  have d0 := de h0.1
  have d1 := dl h0.2
  have d2 := de h1.1
  have d3 := dl h1.2
  clear hr
  go_enter Try.func107, Try.ntmps107
  go_wp2_with (first | ((with_reducible refine gate_dst (N := 2) rfl ?_); refine be (cs := #[.int .i64 x.f0, .int .i64 x.f1, .int .i64 x.f2, .int .i64 x.f3, .int .i64 x.f4]) (t := 33) ?_; intro gb hg w7 hbox hb; have BK := Aside0.mk (hbox); replace HB := Aside0.mk (below_step (uB0 HB) hb); clear hb hbox hg))
  replace hp := uc HB hp
  replace g0 := uc HB g0
  replace g1 := uc HB g1
  obtain ⟨z0, z1, z2, z3, z4, f0, f1, f2, f3, f4⟩ := bc5 BK
  by_cases c2 : rd part x.f0 = rd part x.f1
  · obtain ⟨b2, b3⟩ := dq c2
    clear c2
    go_quiet (fail)
    try go_wp2
    go_ret
    exact ⟨by simp [cutB, b3], uB0 HB⟩
  · obtain ⟨b2, b3⟩ := dQ c2
    clear c2
    go_quiet (fail)
    try go_wp2
    go_ret
    exact ⟨by simp [cutB, b3], uB0 HB⟩

def inside_T : Bool × List (List Nat × List Nat) := (true, [([], []), ([0], [0]), ([], []), ([2], [2]), ([3], [3]), ([], []), ([4, 5, 4], [4, 5]), ([1, 6], [1, 6]), ([7, 6, 0, 1, 2, 3, 4, 5, 6, 7], [7])])
def inside_B : List Nat := [0, 1, 0, 4, 12, 0, 60, 127, 255]
theorem inside_tab : rtab .any (opsOf Try.f69 1) = inside_T := by kernel_rfl
theorem inside_bits : waitsOk inside_T.2 inside_B = true := by kernel_rfl
def impl_Net_inside.f (nodes : Int) (l : List Arc_) (part : List Int) : Option (Int × List Arc_) := if arcsIn part.length l ∧ l.length ≤ 3518437208883 then some (nodes, l.filter fun x => !cutB part x) else none
set_option maxHeartbeats 4000000 in
set_option maxRecDepth 100000 in
theorem impl_Net_inside.calls (a0_0 : Int) (A0_1 : Option Addr) (c0_1 : Nat) (l0_1 : List Arc_) (A1 : Option Addr) (c1 : Nat) (l1 : List Int) (r1 : Int) (r2 : List Arc_) (w : World) (hr0_1 : Kd.C k33 w A0_1 l0_1.length l0_1) (hc0_1 : l0_1.length ≤ c0_1) (hr1 : Kd.C (Kd.int .i64) w A1 l1.length l1) (hc1 : l1.length ≤ c1) (h : impl_Net_inside.f a0_0 l0_1 l1 = some (r1, r2)) :
    Calls Try.prog 69 #[.agg #[.int .i64 a0_0, .slice A0_1 l0_1.length c0_1], .slice A1 l1.length c1] w fun e w' => ∃ v1_ : Value, e = .returned (.agg #[.int .i64 r1, v1_]) ∧ Kd.R k33 33 w' w.heap.size (fun _ => True) v1_ r2 ∧ Below w.heap.size w w' := by
  have hu25 := Try.underlying25
  have HR0_1 := Aside0.mk hr0_1
  have HC0_1 := Aside0.mk hc0_1
  clear hr0_1 hc0_1
  have HR1 := Aside0.mk hr1
  have HC1 := Aside0.mk hc1
  clear hr1 hc1
  have HB := Aside0.mk (Below.refl w.heap.size w)
  unfold impl_Net_inside.f at h
  by_cases hin : arcsIn l1.length l0_1 ∧ l0_1.length ≤ 3518437208883
  rotate_left
  · rw [if_neg hin] at h; exact absurd h (by simp)
  rw [if_pos hin] at h
  simp only [Option.some.injEq, Prod.mk.injEq] at h
  obtain ⟨rfl, rfl⟩ := h
  have HIN := Aside0.mk hin.1
  have HLE := Aside0.mk hin.2
  clear hin
  have eg := Aside0.mk (enters_of (P := Try.prog) Try.func107 (by kernel_rfl) rfl)
  go_enter Try.func69, Try.ntmps69
  go_wp2_with (first | ((with_reducible refine gate_dst (N := 2) rfl ?_); refine be (cs := #[.int .i64 a0_0, .slice A0_1 l0_1.length c0_1]) (t := 25) ?_; intro gb101 hg w3 hbox hb; have BK101 := Aside0.mk (hbox); have GE101 := gz w hg (uB0 HB); replace HB := Aside0.mk (below_step (uB0 HB) hb); clear hb hbox hg) | ((with_reducible refine gate_dst (N := 3) rfl ?_); refine be (cs := #[.slice A1 l1.length c1]) (t := 26) ?_; intro gb102 hg w4 hbox hb; have BK102 := Aside0.mk (hbox); have GE102 := gz w hg (uB1 HB GE101.out); replace HB := Aside0.mk (below_step (uB1 HB GE101.out) hb); have NB101_102 := gl hg BK101; have NB102_101 := gr hg BK101; replace BK101 := bb BK101 hb; clear hb hbox hg) | ((with_reducible refine gate_dst (N := 4) rfl ?_); refine be (cs := #[.int .i64 0, .slice none 0 0]) (t := 25) ?_; intro gb103 hg w5 hbox hb; have BK103 := Aside0.mk (hbox); have GE103 := gz w hg (uB2 HB GE101.out GE102.out); replace HB := Aside0.mk (below_step (uB2 HB GE101.out GE102.out) hb); have NB101_103 := gl hg BK101; have NB103_101 := gr hg BK101; replace BK101 := bb BK101 hb; have NB102_103 := gl hg BK102; have NB103_102 := gr hg BK102; replace BK102 := bb BK102 hb; clear hb hbox hg; obtain ⟨hcz1_0, hcz1_1, hfz1_0, hfz1_1⟩ := bc2 BK101; have hnb1 := NB103_101.out; have hnc1 := NB101_103.out))
  replace BK101 := Aside0.mk (blk_drew BK101.out)
  replace BK102 := Aside0.mk (blk_drew BK102.out)
  replace BK103 := Aside0.mk (blk_drew BK103.out)
  replace HB := Aside0.mk (below_drew1 HB.out)
  refine start_ (n := 9) (S := fun w' => w'.cell? ⟨gb101, 0, none⟩ = some (.int .i64 a0_0) ∧ w'.cell? ⟨gb101, 1, none⟩ = some (.slice A0_1 l0_1.length c0_1)) (ds := [8]) (zt 9 0) (by kernel_rfl) rfl (by kernel_rfl) (b2_ BK101) (fun hHeld => ?_)
  refine with_tabW inside_tab inside_bits (fun HT_ HW_ => ?_)
  generalize w5.drew = w6 at BK101 BK102 BK103 HB hHeld ⊢
  refine qz HT_ 0 ?_
  refine qz HT_ 2 ?_
  refine qz HT_ 5 ?_
  refine qt HT_ HW_ hHeld 1 ?_
  refine qt HT_ HW_ hHeld 3 ?_
  refine qo HT_ 4 (fun K hK => ?_)
  refine goes_ Try.func101 (by kernel_rfl) rfl #[.slice A0_1 l0_1.length c0_1] (by rfl) rfl rfl ul ?_
  refine (slices_Clone_Arc.calls A0_1 c0_1 l0_1 l0_1 _ (uC HR0_1 HB) HC0_1.out (by unfold slices_Clone_Arc.f; rw [if_pos HLE.out])).mono ?_
  rintro e w7 ⟨v104, rfl, ho0, hb⟩
  refine ⟨_, rfl, ?_⟩
  have HO := Aside0.mk ho0
  obtain ⟨Ao, co, eo⟩ := Kd.R_slice HO.out
  subst eo
  have HO2 := Aside0.mk (Kd.R_lower ho0 (below_size HB.out))
  have HF : Aside0 (∀ k, (.slice Ao l0_1.length co : Value).ownBlock = some k → w6.heap.size ≤ k) := ⟨fun k hk => Kd.R_base ho0 k hk⟩
  have L101 : Aside0 (gb101 < w6.heap.size) := ⟨blk_lt BK101.out⟩
  have L102 : Aside0 (gb102 < w6.heap.size) := ⟨blk_lt BK102.out⟩
  have L103 : Aside0 (gb103 < w6.heap.size) := ⟨blk_lt BK103.out⟩
  have HB6 := HB
  replace BK101 := bb BK101 hb
  replace BK102 := bb BK102 hb
  replace BK103 := bb BK103 hb
  replace HB := Aside0.mk (below_step HB.out hb)
  clear hb ho0 HO
  refine hK.out _ _ (b2_ BK101) (fun hHeld => ?_)
  clear hK K
  refine nz ?_
  refine qo HT_ 6 (fun K hK => ?_)
  refine goes_ Try.func106 (by kernel_rfl) rfl #[.slice Ao l0_1.length co, .func (.func 107) #[] #[.pointer (some ⟨gb102, 0, none⟩)]] (by rfl) rfl rfl ul ?_
  have hne : Aside0 (∀ k, k < w6.heap.size → some k ≠ (.slice Ao l0_1.length co : Value).ownBlock) := ⟨fun k hk he => by have := HF.out k he.symm; omega⟩
  refine (deleteFunc_arc (cutB l1) 107 #[.pointer (some ⟨gb102, 0, none⟩)] eg.out Ao co l0_1 w7 w.heap.size (fun _ => True) HO2.out ?hp).mono ?_
  case hp =>
    intro W x hx hgW
    refine inside1_calls x A1 c1 l1 gb102 W ((blk_cell (blk_grown BK102.out hgW (hne.out _ L102.out)) 0).trans rfl) ?_ (HIN.out x hx).1 (HIN.out x hx).2
    exact Kd.C_below HR1.out (HB.out.grown hgW (below_size HB.out) (fun k hk => by have := HF.out k hk; have := HB6.out.size; omega))
  rintro e w8 ⟨v105, rfl, ho1, hg8⟩
  refine ⟨_, rfl, ?_⟩
  have HO5 := Aside0.mk ho1
  obtain ⟨Ao5, co5, eo5⟩ := Kd.R_slice HO5.out
  subst eo5
  replace BK101 := Aside0.mk (blk_grown BK101.out hg8 (hne.out _ L101.out))
  replace BK103 := Aside0.mk (blk_grown BK103.out hg8 (hne.out _ L103.out))
  replace HB : Aside0 (Below w.heap.size w w8) := ⟨HB.out.grown hg8 (below_size HB.out) (fun k hk => by have := HF.out k hk; have := HB6.out.size; omega)⟩
  clear BK102 HO2 hg8 ho1
  refine hK.out _ _ (b2_ BK101) (fun hHeld => ?_)
  clear hK K
  refine nz ?_
  obtain ⟨hcz0, hcz1, hfz0, hfz1⟩ := bc2 BK103
  refine qz HT_ 7 ?_
  refine last_ (i := 8) (N := none) (zt 9 511) rfl rfl (one_of HT_.out (by kernel_rfl)) (by decide) (fun K hK => ?_)
  refine skip_ (w1 := ?_) (by rfl) rfl ?_ ?_
  rotate_left
  · go_simp; rfl
  refine hK.out _ _ ?_
  clear hK K
  refine done_ (done_of HT_.out (by kernel_rfl)) ?_
  try go_wp2
  refine bodyPost_ret (results_cell_row rfl _ _ gb103 25 #[.int .i64 a0_0, .slice Ao5 (l0_1.filter fun x => !cutB l1 x).length co5] (0, 0) _ rfl (by refine pu2 (.int .i64 0) (.slice none 0 0) ?_; exact ub BK103) Try.underlying25 rfl (by kernel_rfl)) rfl ?_
  exact ⟨_, rfl, Kd.R_mono (rf2 HO5 BK103) (fun _ hk => trivial), uB1 HB GE103.out⟩
theorem net_field1 (a : Int) (A : Option Addr) (n c : Nat) : ∀ W : World, (Instr.field 25 (Value.agg #[Value.int IntKind.i64 a, Value.slice A n c]) 1).run Try.prog W = .ok (.slice A n c) W := by
  intro W
  have h := Try.underlying25
  unfold Instr.field
  simp [run_underlying h, asAgg, part, Try.isAgg23, Try.sizeOf23]
end Go.Proofs.Ytblpdfgplifccaa.P
