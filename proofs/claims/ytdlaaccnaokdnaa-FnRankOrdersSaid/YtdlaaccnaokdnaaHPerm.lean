/- Contract: impl.permuted, by hand: slices.Sorted(slices.Values(list)), then a look at each. -/
import Derived.Test.YtdlaaccnaokdnaaHUp
import Derived.Test.YtdlaaccnaokdnaaMRankD
import Derived.Shelf.SlIterI.Collect
import Derived.Shelf.SortM.Plain
import Derived.Shelf.SortM.SortNone
import Derived.Ground.GgzProg
import Derived.Ground.SlgmProg
import Derived.RangeFuncGives
import Derived.Shelf.Abstract
import Derived.WalkKit
import Derived.OwnWalkIn
import Derived.TacticsInMore
import Derived.LoopNIn
import Derived.LoopIn
import Derived.Sort.OwnSorted
set_option linter.unusedVariables false
set_option linter.unusedSimpArgs false
namespace Go.Proofs
open Go.RowKit Go.Maps Go.Sort Go.Shelf
attribute [local go_sem] Oper.semAt_some
def Try.appA_ren : Go.Shelf.Ren := ⟨fun | 11 => 134 | n => n, fun | 24 => 25 | 26 => 3 | 28 => 120 | 0 => 0 | 33 => 105 | 4 => 4 | n => n, fun | n => n⟩
theorem Try.appA : Go.Proofs.SlLaysZI.n11 Try.prog Try.appA_ren := {
  mixed := by kernel_rfl
  f11 := ⟨Try.f134.name, by decide, Try.func134.trans (congrArg some (by kernel_rfl))⟩
  t0 := Try.underlying0
  a0 := Try.isAgg0
  z0 := Try.sizeOf0
  v0 := Try.zeroValue0
  t24 := Try.underlying25
  a24 := Try.isAgg25
  z24 := Try.sizeOf25
  v24 := Try.zeroValue25
  t26 := Try.underlying3
  a26 := Try.isAgg3
  z26 := Try.sizeOf3
  v26 := Try.zeroValue3
  t28 := Try.underlying120
  a28 := Try.isAgg120
  z28 := Try.sizeOf120
  v28 := Try.zeroValue120
  i26 := by kernel_rfl }
def Try.sortA_ren : Go.Shelf.Ren := ⟨fun | 5 => 128 | 8 => 136 | 7 => 135 | 19 => 146 | 20 => 147 | 10 => 137 | 11 => 138 | 12 => 139 | 13 => 140 | 14 => 141 | 15 => 142 | 16 => 143 | 17 => 144 | 18 => 145 | 30 => 148 | 31 => 149 | 32 => 150 | 33 => 151 | 34 => 152 | 35 => 153 | 40 => 154 | n => n, fun | 23 => 25 | 25 => 3 | 3 => 3 | 32 => 129 | 22 => 25 | 0 => 0 | 44 => 137 | 46 => 140 | 4 => 4 | 36 => 148 | 35 => 147 | 41 => 153 | 5 => 5 | 9 => 9 | 53 => 157 | 57 => 161 | 63 => 163 | 64 => 31 | n => n, fun | n => n⟩
theorem Try.sortA : Go.Proofs.SlLaysM.n5 Try.prog Try.sortA_ren := {
  mixed := by kernel_rfl
  f5 := ⟨Try.f128.name, by decide, Try.func128.trans (congrArg some (by kernel_rfl))⟩
  f7 := ⟨Try.f135.name, by decide, Try.func135.trans (congrArg some (by kernel_rfl))⟩
  f8 := Try.func136.trans (congrArg some (by kernel_rfl))
  f10 := ⟨Try.f137.name, by decide, Try.func137.trans (congrArg some (by kernel_rfl))⟩
  f11 := ⟨Try.f138.name, by decide, Try.func138.trans (congrArg some (by kernel_rfl))⟩
  f12 := ⟨Try.f139.name, by decide, Try.func139.trans (congrArg some (by kernel_rfl))⟩
  f13 := ⟨Try.f140.name, by decide, Try.func140.trans (congrArg some (by kernel_rfl))⟩
  f14 := ⟨Try.f141.name, by decide, Try.func141.trans (congrArg some (by kernel_rfl))⟩
  f15 := ⟨Try.f142.name, by decide, Try.func142.trans (congrArg some (by kernel_rfl))⟩
  f16 := ⟨Try.f143.name, by decide, Try.func143.trans (congrArg some (by kernel_rfl))⟩
  f17 := ⟨Try.f144.name, by decide, Try.func144.trans (congrArg some (by kernel_rfl))⟩
  f18 := ⟨Try.f145.name, by decide, Try.func145.trans (congrArg some (by kernel_rfl))⟩
  f19 := Try.func146.trans (congrArg some (by kernel_rfl))
  f20 := Try.func147.trans (congrArg some (by kernel_rfl))
  f30 := ⟨Try.f148.name, by decide, Try.func148.trans (congrArg some (by kernel_rfl))⟩
  f31 := Try.func149.trans (congrArg some (by kernel_rfl))
  f32 := Try.func150.trans (congrArg some (by kernel_rfl))
  f33 := ⟨Try.f151.name, by decide, Try.func151.trans (congrArg some (by kernel_rfl))⟩
  f34 := ⟨Try.f152.name, by decide, Try.func152.trans (congrArg some (by kernel_rfl))⟩
  f35 := ⟨Try.f153.name, by decide, Try.func153.trans (congrArg some (by kernel_rfl))⟩
  f40 := ⟨Try.f154.name, by decide, Try.func154.trans (congrArg some (by kernel_rfl))⟩
  t0 := Try.underlying0
  a0 := Try.isAgg0
  z0 := Try.sizeOf0
  v0 := Try.zeroValue0
  t3 := Try.underlying3
  a3 := Try.isAgg3
  z3 := Try.sizeOf3
  v3 := Try.zeroValue3
  t4 := Try.underlying4
  a4 := Try.isAgg4
  z4 := Try.sizeOf4
  v4 := Try.zeroValue4
  t5 := Try.underlying5
  a5 := Try.isAgg5
  z5 := Try.sizeOf5
  v5 := Try.zeroValue5
  t9 := Try.underlying9
  a9 := Try.isAgg9
  z9 := Try.sizeOf9
  v9 := Try.zeroValue9
  t22 := Try.underlying25
  a22 := Try.isAgg25
  z22 := Try.sizeOf25
  v22 := Try.zeroValue25
  t23 := Try.underlying25
  a23 := Try.isAgg25
  z23 := Try.sizeOf25
  v23 := Try.zeroValue25
  t25 := Try.underlying3
  a25 := Try.isAgg3
  z25 := Try.sizeOf3
  v25 := Try.zeroValue3
  t32 := Try.underlying129
  a32 := Try.isAgg129
  z32 := Try.sizeOf129
  v32 := Try.zeroValue129
  t35 := Try.underlying147
  a35 := Try.isAgg147
  z35 := Try.sizeOf147
  v35 := Try.zeroValue147
  t36 := Try.underlying148
  a36 := Try.isAgg148
  z36 := Try.sizeOf148
  v36 := Try.zeroValue148
  t41 := Try.underlying153
  a41 := Try.isAgg153
  z41 := Try.sizeOf153
  v41 := Try.zeroValue153
  t44 := Try.underlying137
  a44 := Try.isAgg137
  z44 := Try.sizeOf137
  v44 := Try.zeroValue137
  t46 := Try.underlying140
  a46 := Try.isAgg140
  z46 := Try.sizeOf140
  v46 := Try.zeroValue140
  t53 := Try.underlying157
  a53 := Try.isAgg157
  z53 := Try.sizeOf157
  v53 := Try.zeroValue157
  t57 := Try.underlying161
  a57 := Try.isAgg161
  z57 := Try.sizeOf161
  v57 := Try.zeroValue161
  t63 := Try.underlying163
  a63 := Try.isAgg163
  z63 := Try.sizeOf163
  v63 := Try.zeroValue163
  t64 := Try.underlying31
  a64 := Try.isAgg31
  z64 := Try.sizeOf31
  v64 := Try.zeroValue31 }
/-- what slices.Values hands back: it gives a slice's numbers in order to whoever keeps them readable -/
theorem Try.vals (n : Nat) (hn : 1 ≤ n) (l Bs cap : Nat) (A : Option Addr) (zs : List Int) (J : List Int → World → Prop)
    (hY : ∀ pre x W, J pre W → pre.length < zs.length → YieldAt Fence.wide (n - 1) Try.prog l #[.int .i64 x] W fun e W' => e = .returned (.bool true) ∧ J (pre ++ [x]) W')
    (hrd : ∀ pre W, J pre W → ∀ j (hj : j < zs.length), ∃ ad, A = some ad ∧ W.cell? (ad.add j) = some (.int .i64 zs[j]))
    (W : World) (hBs : W.cell? ⟨Bs, 0, none⟩ = some (.slice A zs.length cap)) (hln : zs.length ≤ 4611686018427387904) (h0 : J [] W) :
    CallsIn Fence.wide n Try.prog 129 #[.func (.yield l) #[] #[], .pointer (some ⟨Bs, 0, none⟩)] W fun e W' => (∃ v, e = .returned v) ∧ J zs W' := by
  refine callsIn_of_wp Try.func129 rfl trivial ?_ rfl
  simp only [Try.ntmps129, List.size_toArray, List.length_cons, List.length_nil, Nat.reduceAdd, Nat.reduceSub, Array.replicate_succ, Array.replicate_zero, List.push_toArray, List.append_toArray, List.nil_append, List.cons_append]
  gi_wp2
  gi_loopw [7] (fun i wr => ∃ k : Nat, k ≤ zs.length ∧ i = .int .i64 k ∧ J (zs.take k) wr)
    (fun i _ => zs.length - (intOf i).toNat)
  case atStart => exact ⟨0, Nat.zero_le _, rfl, h0⟩
  case round =>
    obtain ⟨k, hk, rfl, hJs⟩ := hrel
    by_cases hlt : k < zs.length
    · obtain ⟨ad, rfl, hcx⟩ := hrd _ _ hJs k hlt
      obtain ⟨fn, tmps, assign, body, hy, hR⟩ := hY _ zs[k] wr hJs (by rw [List.length_take]; omega)
      have htk : zs.take k ++ [zs[k]] = zs.take (k + 1) := (List.take_succ_eq_append_getElem hlt).symm
      rw [htk] at hR
      clear htk
      generalize zs[k] = x at hcx hy
      have hltz : (k : Int) < (zs.length : Int) := by omega
      gi_wp2
      refine hR.mono ?_
      rintro e W3 ⟨rfl, hJ3⟩
      gi_wp2
      go_roundw
      case rel => exact ⟨k + 1, by omega, by simp, hJ3⟩
      case measure => simp [intOf]; omega
    · obtain rfl : k = zs.length := by omega
      rw [List.take_length] at hJs
      gi_wp2
      go_end0
      exact ⟨⟨_, rfl⟩, hJs⟩
/- slices.AppendSeq(nil, slices.Values(list)) -/
set_option maxRecDepth 100000 in
set_option maxHeartbeats 2000000 in
theorem Try.appSeq (n : Nat) (hn : 2 ≤ n) (Bs cap : Nat) (A : Option Addr) (zs : List Int) (hN : zs.length ≤ maxLen) (hNb : zs.length * 8 ≤ 140737488355328) (w : World) (hBs : w.cell? ⟨Bs, 0, none⟩ = some (.slice A zs.length cap))
    (hrd : ∀ j (hj : j < zs.length), ∃ ad, A = some ad ∧ w.cell? (ad.add j) = some (.int .i64 zs[j])) :
    CallsIn Fence.wide n Try.prog 134 #[.slice none 0 0, .func (.func 129) #[] #[.pointer (some ⟨Bs, 0, none⟩)]] w fun e w' => ∃ v : Value, e = .returned v ∧ w'.ownsRow w.heap.size 3 1 v zs.length (zs.map encZ) ∧ (v = .slice none 0 0 ↔ zs = []) ∧ Below w.heap.size w w' := by
  have h1 : 1 ≤ n := by omega
  have mixed := Try.appA.mixed; have a0 := Try.appA.a0; have z0 := Try.appA.z0; have v0 := Try.appA.v0; have t24 := Try.appA.t24; have a24 := Try.appA.a24; have z24 := Try.appA.z24; have v24 := Try.appA.v24; have t26 := Try.appA.t26; have a26 := Try.appA.a26; have z26 := Try.appA.z26; have v26 := Try.appA.v26
  have hkeep : ∀ {W : World} {p : Addr} {v : Value}, Below w.heap.size w W → w.cell? p = some v → W.cell? p = some v := fun hb hp => (hb.cell (World.block_lt_of_cell? w _ hp)).trans hp
  refine callsIn_of_wp_marks Try.func134 rfl trivial ?_ rfl
  simp only [Try.ntmps134, List.size_toArray, List.length_cons, List.length_nil, Nat.reduceAdd, Nat.reduceSub, Array.replicate_succ, Array.replicate_zero, List.push_toArray, List.append_toArray, List.nil_append, List.cons_append]
  gi_wp2
  refine wpIn_rangeFunc ?_
  intro fn hfn
  have hs0 : (w.alloc (.cells #[.slice none 0 0] 25)).heap.size = w.heap.size + 1 := by simp
  have hv0 : (w.alloc (.cells #[.slice none 0 0] 25)).heap[w.heap.size]? = some (.cells #[.slice none 0 0] 25 (0, 0)) := World.alloc_heap_new w _
  have hb0 : Below w.heap.size w (w.alloc (.cells #[.slice none 0 0] 25)) := (Below.refl _ w).alloc (Nat.le_refl _) _
  generalize w.alloc (.cells #[.slice none 0 0] 25) = W0 at hs0 hv0 hb0 ⊢
  obtain ⟨sv, hsv⟩ : ∃ sv : Value, sv = .func (.func 129) #[] #[.pointer (some ⟨Bs, 0, none⟩)] := ⟨_, rfl⟩
  have hL1 : ((W0.alloc (.deferred (some []))).alloc (.loop (AnyZI.apRec Try.appA_ren fn sv w.heap.size W0.heap.size .ready none))).heap[W0.heap.size + 1]? = some (.loop (AnyZI.apRec Try.appA_ren fn sv w.heap.size W0.heap.size .ready none)) := by
    have := World.alloc_heap_new (W0.alloc (.deferred (some []))) (.loop (AnyZI.apRec Try.appA_ren fn sv w.heap.size W0.heap.size .ready none))
    rwa [World.size_alloc] at this
  have hK1 : ((W0.alloc (.deferred (some []))).alloc (.loop (AnyZI.apRec Try.appA_ren fn sv w.heap.size W0.heap.size .ready none))).heap[W0.heap.size]? = some (.deferred (some [])) := (Below.heap_alloc _ _ _ (by simp)).trans (World.alloc_heap_new W0 _)
  have hold : ((W0.alloc (.deferred (some []))).alloc (.loop (AnyZI.apRec Try.appA_ren fn sv w.heap.size W0.heap.size .ready none))).heap[w.heap.size]? = W0.heap[w.heap.size]? := (Below.heap_alloc _ _ _ (by simp; omega)).trans (Below.heap_alloc _ _ _ (by omega))
  have hb1 : Below w.heap.size w ((W0.alloc (.deferred (some []))).alloc (.loop (AnyZI.apRec Try.appA_ren fn sv w.heap.size W0.heap.size .ready none))) := (hb0.alloc hb0.size _).alloc (by simp; omega) _
  refine ⟨W0.heap.size + 1, [{ target := .collected W0.heap.size, args := #[] }], (W0.alloc (.deferred (some []))).alloc (.loop (AnyZI.apRec Try.appA_ren fn sv w.heap.size W0.heap.size .ready none)), { target := .fn (.func 129) #[.pointer (some ⟨Bs, 0, none⟩)], args := #[.func (.yield (W0.heap.size + 1)) #[] #[]] }, (W0.alloc (.deferred (some []))).alloc (.loop (AnyZI.apRec Try.appA_ren fn sv w.heap.size W0.heap.size .ready none)), 129,
    #[.func (.yield (W0.heap.size + 1)) #[] #[], .pointer (some ⟨Bs, 0, none⟩)], (W0.alloc (.deferred (some []))).alloc (.loop (AnyZI.apRec Try.appA_ren fn sv w.heap.size W0.heap.size .ready none)), ?_, ?_, ?_, ?_, fun _ => h1, ?_⟩
  · subst hsv; exact run_enterLoop_outer _ _ _ _ _
  · simp [resolve, go_sem]
  · intro f' hf'; trivial
  · simp [invoke, go_sem, enters_of Try.func129 (by kernel_rfl) rfl]
  · generalize (W0.alloc (.deferred (some []))).alloc (.loop (AnyZI.apRec Try.appA_ren fn sv w.heap.size W0.heap.size .ready none)) = W1 at hL1 hK1 hold hb1 ⊢
    have hM : AnyZI.ApAt Try.appA_ren w fn sv w.heap.size (W0.heap.size + 1) W0.heap.size [] W1 := ⟨⟨_, hold.trans hv0, ⟨rfl, .inl ⟨rfl, rfl⟩⟩, by simp⟩, hL1, hK1, hb1⟩
    have hln : zs.length ≤ 4611686018427387904 := by omega
    refine (Try.vals (n - 1) (by omega) (W0.heap.size + 1) Bs cap A zs (AnyZI.ApAt Try.appA_ren w fn sv w.heap.size (W0.heap.size + 1) W0.heap.size)
      (fun pre x W hJ hl => by
        obtain ⟨f1, t1, a1, b1, hy, hR⟩ := (AnyZI.apYield Try.appA Fence.wide (n - 1 - 1) w fn trivial sv w.heap.size (W0.heap.size + 1) W0.heap.size (by omega) (by omega) (by omega) (Nat.le_refl _) (by omega) zs.length hN hNb pre x W hJ hl)
        exact ⟨f1, t1, a1, b1, hy, hR.mono fun e W' h => ⟨h.1, h.2.1⟩⟩)
      (fun pre W hJ j hj => by obtain ⟨ad, e, h⟩ := hrd j hj; exact ⟨ad, e, hkeep hJ.below h⟩) W1 (hkeep hb1 hBs) hln hM).mono ?_
    rintro e W2 ⟨⟨v0, rfl⟩, h2⟩
    obtain ⟨v, hv, hrow, hnil⟩ := h2.box
    have hend := run_endLoop (P := Try.prog) h2.L (by simp [AnyZI.apRec])
    obtain ⟨W3, hW3⟩ : ∃ W3, W2.putObj (W0.heap.size + 1) (.loop { AnyZI.apRec Try.appA_ren fn sv w.heap.size W0.heap.size .ready none with state := .exhausted }) = W3 := ⟨_, rfl⟩
    rw [hW3] at hend
    have hg3 : W2.grownBy W3 (some (W0.heap.size + 1)) := by rw [← hW3]; exact grownBy_putObj_a _ _ _
    have hv3 : W3.heap[w.heap.size]? = some (.cells #[v] 25 (0, 0)) := by rw [← hW3]; exact (World.putObj_heap_other (by omega)).trans hv
    have hK3 : W3.heap[W0.heap.size]? = some (.deferred (some [])) := by rw [← hW3]; exact (World.putObj_heap_other (by omega)).trans h2.K
    have hrow3 := hrow.kept hg3 (ownsRow_ne_a hrow h2.L (fun cur e => by cases e))
    have hb3 : Below w.heap.size w W3 := h2.below.grown hg3 h2.below.size (fun k e => by cases e; omega)
    obtain ⟨hc3, hf3⟩ := cell_of_box_a hv3
    clear hW3
    refine ⟨none, W3, hend, ?_⟩
    gi_wp2
    rw [hs0] at hK3
    refine ⟨by simp, .inl ⟨_, _, rfl, run_takeDeferred hK3, ?_⟩⟩
    exact ⟨_, results_tmp rfl _ _ _, v, rfl, hrow3.kept (grownBy_putObj_a _ _ _) (ownsRow_ne_a hrow3 hK3 (fun cur e => by cases e)), hnil, hb3.grown (grownBy_putObj_a _ _ _) hb3.size (fun k e => by cases e; omega)⟩
set_option maxHeartbeats 1000000 in
theorem Try.collect (n : Nat) (hn : 3 ≤ n) (Bs cap : Nat) (A : Option Addr) (zs : List Int) (hN : zs.length ≤ maxLen) (hNb : zs.length * 8 ≤ 140737488355328) (w : World) (hBs : w.cell? ⟨Bs, 0, none⟩ = some (.slice A zs.length cap))
    (hrd : ∀ j (hj : j < zs.length), ∃ ad, A = some ad ∧ w.cell? (ad.add j) = some (.int .i64 zs[j])) :
    CallsIn Fence.wide n Try.prog 127 #[.func (.func 129) #[] #[.pointer (some ⟨Bs, 0, none⟩)]] w fun e w' => ∃ v : Value, e = .returned v ∧ w'.ownsRow w.heap.size 3 1 v zs.length (zs.map encZ) ∧ (v = .slice none 0 0 ↔ zs = []) ∧ Below w.heap.size w w' := by
  have h1 : 1 ≤ n := by omega
  have cA := Try.appSeq (n - 1) (by omega) Bs cap A zs hN hNb w hBs hrd
  have hfA : Fence.wide.fn 134 := trivial
  refine callsIn_of_wp Try.func127 rfl trivial ?_ rfl
  simp only [Try.ntmps127, List.size_toArray, List.length_cons, List.length_nil, Nat.reduceAdd, Nat.reduceSub, Array.replicate_succ, Array.replicate_zero, List.push_toArray, List.append_toArray, List.nil_append, List.cons_append]
  gi_wp2_with (gi_at_call 134; refine cA.mono ?_; rintro e w' ⟨v, rfl, hrow, hnil, hb⟩)
  go_ret
  exact ⟨v, rfl, hrow, hnil, hb⟩
set_option maxHeartbeats 1000000 in
theorem Try.sorted (n : Nat) (hn : 4 ≤ n) (Bs cap : Nat) (A : Option Addr) (zs : List Int) (hN : zs.length ≤ maxLen) (hNb : zs.length * 8 ≤ 140737488355328) (w : World) (hBs : w.cell? ⟨Bs, 0, none⟩ = some (.slice A zs.length cap))
    (hrd : ∀ j (hj : j < zs.length), ∃ ad, A = some ad ∧ w.cell? (ad.add j) = some (.int .i64 zs[j])) :
    CallsIn Fence.wide n Try.prog 114 #[.func (.func 129) #[] #[.pointer (some ⟨Bs, 0, none⟩)]] w fun e w' => ∃ v : Value, e = .returned v ∧ w'.ownsRow w.heap.size 3 1 v zs.length ((zs.mergeSort (fun x y => decide (x ≤ y))).map encZ) ∧ Below w.heap.size w w' := by
  have h1 : 1 ≤ n := by omega
  have cC := Try.collect (n - 1) (by omega) Bs cap A zs hN hNb w hBs hrd
  have hfC : Fence.wide.fn 127 := trivial
  have hfS : Fence.wide.fn 128 := trivial
  refine callsIn_of_wp Try.func114 rfl trivial ?_ rfl
  simp only [Try.ntmps114, List.size_toArray, List.length_cons, List.length_nil, Nat.reduceAdd, Nat.reduceSub, Array.replicate_succ, Array.replicate_zero, List.push_toArray, List.append_toArray, List.nil_append, List.cons_append]
  gi_wp2_with (gi_at_call 127; refine cC.mono ?_; rintro e W ⟨v, rfl, hrow, hnil, hb⟩)
  rcases hrow.2 with ⟨rfl, hz⟩ | ⟨gb, cap2, cur, rfl, hbase, hgb, r1, r2, r3, r4⟩
  · have hss : zs = [] := List.eq_nil_of_length_eq_zero hz
    subst hss
    have cS : CallsIn Fence.wide (n - 1) Try.prog 128 #[.slice none 0 0] W fun e w' => e = .returned (.tuple #[]) ∧ w' = W := callsIn_wide.2 (AnyM.slices_Sort_int_none Try.sortA none 0 W)
    gi_wp2_with (gi_at_call 128; refine cS.mono ?_; rintro e w' ⟨rfl, rfl⟩)
    go_ret
    exact ⟨.slice none 0 0, rfl, by simpa using hrow, hb⟩
  · have hH : Holds encZ W gb 0 zs.toArray := holds_of_block_i hgb (by simpa using r4)
    have hgl : gb < W.heap.size := (Array.getElem?_eq_some_iff.1 hgb).1
    have hsz : zs.length < 4611686018427387904 := by omega
    have cS : CallsIn Fence.wide (n - 1) Try.prog 128 #[.slice (some ⟨gb, 0, none⟩) zs.length cap2] W _ := callsIn_wide.2 (AnyM.slices_Sort_int Try.sortA gb 0 cap2 zs W hH hgl hsz)
    gi_wp2_with (gi_at_call 128; refine cS.mono ?_; rintro e w' ⟨rfl, nn, os, rfl⟩)
    go_ret
    exact ⟨_, rfl, ownsRow_sorted_i (by simp) hbase hgb r1 r2 r3, hb.grown (grownBy_sorted_i _) hb.size (fun j hj => by cases hj; exact hbase)⟩
set_option maxHeartbeats 1000000 in
theorem Try.values (n : Nat) (a : Option Addr) (len cap : Nat) (w : World) :
    CallsIn Fence.wide n Try.prog 115 #[.slice a len cap] w fun e w' => e = .returned (.func (.func 129) #[] #[.pointer (some ⟨w.heap.size, 0, none⟩)]) ∧ w' = w.alloc (.cells #[.slice a len cap] 25) := by
  refine callsIn_of_wp Try.func115 rfl trivial ?_ rfl
  simp only [Try.ntmps115, List.size_toArray, List.length_cons, List.length_nil, Nat.reduceAdd, Nat.reduceSub, Array.replicate_succ, Array.replicate_zero, List.push_toArray, List.append_toArray, List.nil_append, List.cons_append]
  gi_wp2
  go_ret
  exact ⟨rfl, rfl⟩
end Go.Proofs
namespace Go.Proofs.Ytdlaaccnaokdnaa.P
open Go.RowKit Go.Proofs.Ytdlaaccnaokdnaa.M Go.Proofs.YtdlaaccnaokdnaaV.PrintWords Go.Proofs.YtdlaaccnaokdnaaV.PrintLast Go.Proofs.YtdlaaccnaokdnaaV.PrintMore
/-- in order, and each at its own number: then from 0 on, each once -/
theorem sorted_at {l : List Int} (hp : l.Pairwise (· ≤ ·)) (hn : l.Nodup) (h0 : ∀ x ∈ l, 0 ≤ x ∧ x < (l.length : Int)) : ∀ i (hi : i < l.length), l[i] = (i : Int) := by
  have lt : ∀ i j (hi : i < l.length) (hj : j < l.length), i < j → l[i] < l[j] := by
    intro i j hi hj hij
    have h1 := List.pairwise_iff_getElem.1 hp i j hi hj hij
    have h2 := List.pairwise_iff_getElem.1 hn i j hi hj hij
    omega
  have lo : ∀ i (hi : i < l.length), (i : Int) ≤ l[i] := by
    intro i
    induction i with
    | zero => intro hi; exact (h0 _ (List.getElem_mem hi)).1
    | succ i ih =>
      intro hi
      have h1 := ih (by omega)
      have h2 := lt i (i + 1) (by omega) hi (by omega)
      omega
  have up : ∀ d i (hi : i < l.length), i + d + 1 = l.length → l[i] ≤ (i : Int) := by
    intro d
    induction d with
    | zero =>
      intro i hi e
      have := (h0 _ (List.getElem_mem hi)).2
      omega
    | succ d ih =>
      intro i hi e
      have h1 := ih (i + 1) (by omega) (by omega)
      have h2 := lt i (i + 1) hi (by omega) (by omega)
      omega
  intro i hi
  have h1 := lo i hi
  have h2 := up (l.length - i - 1) i hi (by omega)
  omega
def srt (l : List Int) : List Int := l.mergeSort fun x y => decide (x ≤ y)
theorem srt_len (l : List Int) : (srt l).length = l.length := by unfold srt; rw [List.length_mergeSort]
theorem ord_sorted {l : List Int} {n : Int} : Ord l n ↔ (l.length : Int) = n ∧ ∀ i, i < l.length → rd (srt l) (i : Int) = (i : Int) := by
  have hperm := List.mergeSort_perm l (fun x y => decide (x ≤ y))
  have hpw : (l.mergeSort fun x y => decide (x ≤ y)).Pairwise (· ≤ ·) := by
    have := List.pairwise_mergeSort (le := fun (x y : Int) => decide (x ≤ y)) (fun a b c h1 h2 => by simp only [decide_eq_true_eq] at h1 h2 ⊢; omega) (fun a b => by simp only [Bool.or_eq_true, decide_eq_true_eq]; omega) l
    exact this.imp fun h => by simpa using h
  have hlen := srt_len l
  change (srt l).Perm l at hperm
  change (srt l).Pairwise (· ≤ ·) at hpw
  generalize srt l = s at hperm hpw hlen ⊢
  unfold M.Ord
  constructor
  · rintro ⟨h1, h2, h3⟩
    refine ⟨h1, fun i hi => ?_⟩
    rw [rd_at0 s i (by omega)]
    exact sorted_at hpw (hperm.nodup_iff.2 h2) (fun x hx => by have := h3 x (hperm.mem_iff.1 hx); rw [hlen, h1]; exact this) i (by omega)
  · rintro ⟨h1, h2⟩
    have h3 : ∀ i (hi : i < s.length), s[i] = (i : Int) := fun i hi => by rw [← rd_at0 s i hi]; exact h2 i (by omega)
    refine ⟨h1, hperm.nodup_iff.1 ?_, fun x hx => ?_⟩
    · refine List.pairwise_iff_getElem.2 fun i j hi hj hij => ?_
      rw [h3 i hi, h3 j hj]
      omega
    · obtain ⟨i, hi, rfl⟩ := List.getElem_of_mem (hperm.mem_iff.2 hx)
      rw [h3 i hi]
      omega
theorem row_read {W : World} {base : Nat} {v : Value} {s : List Int} (hrow : W.ownsRow base 3 1 v s.length (s.map encZ)) : ∃ A c, v = .slice A s.length c ∧ ∀ j, j < s.length → ∃ ad, A = some ad ∧ W.cell? (ad.add j) = some (.int .i64 (rd s (j : Int))) := by
  rcases hrow.2 with ⟨rfl, hz⟩ | ⟨gb, cap2, cur, rfl, hbase, hgb, r1, r2, r3, r4⟩
  · exact ⟨none, 0, by rw [hz], fun j hj => by omega⟩
  · refine ⟨_, cap2, rfl, fun j hj => ⟨_, rfl, ?_⟩⟩
    have hH : Go.Sort.Holds encZ W gb 0 s.toArray := holds_of_block_i hgb (by simpa using r4)
    have := (hH j (by simpa using hj)).1
    rw [rd_at0 s j hj, add_plain]
    simpa [hj] using this
def impl_permuted.f (l : List Int) (n : Int) : Option Bool := if l.length ≤ 1048576 then some (decide (Ord l n)) else none
set_option maxHeartbeats 4000000 in
set_option maxRecDepth 100000 in
theorem impl_permuted.calls (A0 : Option Addr) (c0 : Nat) (l0 : List Int) (a1 : Int) (r : Bool) (w : World) (hr0 : Kd.C (Kd.int .i64) w A0 l0.length l0) (hc0 : l0.length ≤ c0) (h : impl_permuted.f l0 a1 = some r) :
    Calls Try.prog 80 #[.slice A0 l0.length c0, .int .i64 a1] w fun e w' => e = .returned (.bool r) ∧ Below w.heap.size w w' := by
  unfold impl_permuted.f at h
  by_cases hl : l0.length ≤ 1048576
  rotate_left
  · rw [if_neg hl] at h; cases h
  rw [if_pos hl] at h
  have e := Option.some.inj h
  have hbl : ∀ {p : Addr} {v : Value}, w.cell? p = some v → p.block < w.heap.size := fun h => World.block_lt_of_cell? w _ h
  have cV := (callsIn_wide (n := 8)).1 (Try.values 8 A0 l0.length c0 w)
  have cS := (callsIn_wide (n := 8)).1 (Try.sorted 8 (by omega) w.heap.size c0 A0 l0 (by unfold maxLen; omega) (by omega) (w.alloc (.cells #[.slice A0 l0.length c0] 25)) (by simp) (fun j hj => by
    obtain ⟨ad, ea, hx⟩ := Kd.at_int hr0 (j : Int) (by omega) (by omega)
    rw [Int.toNat_natCast, rd_at0 l0 j hj] at hx
    exact ⟨ad, ea, (World.cell?_alloc_lt _ _ _ (by simpa using hbl hx)).trans hx⟩))
  have HV := Aside0.mk cV
  have HS := Aside0.mk cS
  have HL := Aside0.mk hl
  have HE := Aside0.mk e
  clear h cV cS hl e hr0 hbl
  go_enter Try.func80, Try.ntmps80
  go_wp2_with (first | (go_at_call 115; refine HV.out.mono ?_; rintro e w' ⟨rfl, rfl⟩) | (go_at_call 114; refine HS.out.mono ?_; rintro e w' ⟨v, rfl, hrow, hb⟩; obtain ⟨A, c, ev, hrd⟩ := row_read (s := srt l0) (by rw [srt_len]; exact hrow); rw [srt_len] at ev hrd; subst ev; have HRD := Aside0.mk hrd; have HB : Aside0 (Below w.heap.size w w') := ⟨(below_alloc (Below.refl _ w) _).trans (hb.mono (by simp))⟩; clear hrow hb hrd))
  go_loopg [13] l0.length (fun gg s13 wr => ∃ i : Nat, s13 = .int .i64 (i : Int) ∧ i ≤ l0.length ∧ l0.length - i ≤ gg ∧ Aside0 (∀ j, j < i → rd (srt l0) (j : Int) = (j : Int)) ∧ wr = w')
  case atStart => exact ⟨0, rfl, Nat.zero_le _, Nat.le_refl _, ⟨fun j hj => absurd hj (Nat.not_lt_zero j)⟩, rfl⟩
  case round =>
    obtain ⟨i, rfl, hil, hgi, HJ, rfl⟩ := hrel
    by_cases hi : i < l0.length
    · have hiz := dl (show (i : Int) < (l0.length : Int) by omega)
      have p1 := eq_true (show 0 ≤ (i : Int) by omega)
      have p2 := eq_true (show (i : Int) < (l0.length : Int) by omega)
      obtain ⟨ad, ea, hx⟩ := HRD.out i hi
      subst ea
      obtain ⟨x, hx_⟩ : ∃ x, rd (srt l0) (i : Int) = x := ⟨_, rfl⟩
      rw [hx_] at hx
      have HX := Aside0.mk hx_
      have HI := Aside0.mk hi; have HGI := Aside0.mk hgi
      clear hx_ hi hil hgi
      by_cases hc : (i : Int) = x
      · obtain ⟨c1, c2⟩ := dq hc
        have HC := Aside0.mk hc
        clear hc
        go_wp2
        go_roundg (l0.length - i - 1)
        case measure => have := HI.out; have := HGI.out; omega
        case rel =>
          have h1 := HI.out; have h2 := HL.out
          exact ⟨i + 1, congrArg (Value.int .i64) (by unfold wrap64; omega), by omega, by omega, ⟨fun j hj => by
            rcases Nat.lt_or_ge j i with h3 | h3
            · exact HJ.out j h3
            · have e3 : j = i := by omega
              subst e3
              rw [HX.out]; exact HC.out.symm⟩, rfl⟩
      · obtain ⟨c1, c2⟩ := dQ hc
        have hno : decide (Ord l0 a1) = false := decide_eq_false fun h => hc (by have := (ord_sorted.1 h).2 i HI.out; rw [HX.out] at this; exact this.symm)
        have HNO := Aside0.mk hno
        clear hc hno
        go_wp2
        go_ret
        exact ⟨by rw [← HE.out, HNO.out]; rfl, HB.out⟩
    · have hiz := DL (show ¬ (i : Int) < (l0.length : Int) by omega)
      have hq1 := eq_false (show ¬ (i : Int) < (l0.length : Int) by omega); have hq2 := eq_false hi
      have hall : decide (Ord l0 a1) = ((l0.length : Int) == a1) := by
        have h1 : Ord l0 a1 ↔ (l0.length : Int) = a1 := ⟨fun h => h.1, fun h => ord_sorted.2 ⟨h, fun j hj => HJ.out j (by omega)⟩⟩
        rw [decide_eq_decide.2 h1]
        rfl
      have HALL := Aside0.mk hall
      clear hall hi hil hgi
      go_wp2
      go_ret
      exact ⟨by rw [← HE.out, HALL.out]; rfl, HB.out⟩
end Go.Proofs.Ytdlaaccnaokdnaa.P
