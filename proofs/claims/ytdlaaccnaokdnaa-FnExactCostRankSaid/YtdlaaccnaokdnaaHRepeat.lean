/- Contracts of functions of package slices, by hand: Repeat, of one element, at most 8 times. -/
import Derived.Test.YtdlaaccnaokdnaaPx0
import Derived.Test.YtdlaaccnaokdnaaGMul
import Derived.Laws.CopyRow
import Derived.Laws.CopyOwn
import Derived.Deep.RegionLaw
set_option linter.unusedVariables false
namespace Go.Proofs.Ytdlaaccnaokdnaa.P
open Go.RowKit Go.Proofs.YtdlaaccnaokdnaaV.PrintWords Go.Proofs.YtdlaaccnaokdnaaV.PrintLast Go.Proofs.YtdlaaccnaokdnaaV.PrintMore
/-- copy into a row of one's own, elements of any size -/
theorem run_copy_rowZ {P : Program} (w : World) (dT sT ty elem : TypeId) (g o dLen dCap : Nat) (a : Addr) (sLen sCap : Nat) (cur : Array Value) (t : TypeId) (cs : List Value) (z : Nat)
    (hu : P.underlying dT = some (.slice elem)) (hs : (P.info? elem).map (·.size) = some z)
    (hg : w.heap[g]? = some (.cells cur t (0, 0))) (hn : cs.length = Nat.min sLen dLen * z)
    (hsrc : ∀ j v, cs[j]? = some v → w.cell? (a.add j) = some v) (hfit : o + cs.length ≤ cur.size) (h1 : ∀ v ∈ cs, v.oneCell' = true) :
    (Builtin.copy_ #[dT, sT] ty #[.slice (some ⟨g, o, none⟩) dLen dCap, .slice (some a) sLen sCap]).run P w =
      .ok (goInt ((Nat.min sLen dLen : Nat) : Int)) (w.setRow g (cur.toList.take o ++ cs ++ cur.toList.drop (o + cs.length)).toArray) := by
  have hl := run_loadCells_list (P := P) w a cs hsrc
  have hst := run_storeCells_at P g o t cs 0 cur w hg (by simpa using hfit) h1
  cases hq : P.info? elem with
  | none => simp [hq] at hs
  | some i =>
    have hi : i.size = z := by simpa [hq] using hs
    rw [hn] at hl
    simp [Builtin.copy_, run_underlying hu, Builtin.lenOf, Builtin.firstCells, sizeOf, typeInfo, hq, hi, hl, hst]
theorem add0 (g j : Nat) : (⟨g, 0, none⟩ : Addr).add j = ⟨g, j, none⟩ := by
  unfold Addr.add
  split <;> simp_all
/-- copy, run, as a step of a region that draws -/
theorem step_copy_run {P : Program} {ops : Array Oper} {o : Oper} {a : Act} {w : World} {K : Act → World → Prop} {Q : Exit → Act → World → Prop} {E : Prop} (hgd : o.guard = none) (d s : Operand) (dT sT : TypeId)
    (ho : o.op = .call { callee := .builtin .copy, args := #[d, s], argTypes := #[dT, sT] }) (vd vs : Value) (hd : a.eval d = vd) (hs : a.eval s = vs) (v : Value) (w' : World)
    (hrun : (Builtin.copy_ #[dT, sT] o.type #[vd, vs]).run P w = .ok v w') (hK : K (a.put o.dst v) w') :
    if Region.wanted o (yielded ops a.tmps) = true then Oper.wp P o a w K Q else E := by
  have hw : Region.wanted o (yielded ops a.tmps) = true := by simp [Region.wanted, hgd]
  rw [if_pos hw]
  unfold Oper.wp
  simp [execOp, ho, resolve, invoke, builtin, hd, hs, hrun, Result.andThen]
  exact hK
/-- the cells of n elements c, and zeros z behind, m in all -/
def repCells (c z : List Value) (m n : Nat) : List Value := (List.replicate n c).flatten ++ (List.replicate (m - n) z).flatten
theorem flat_len (c : List Value) (n : Nat) : (List.replicate n c).flatten.length = n * c.length := by
  induction n with
  | zero => simp
  | succ n ih => rw [List.replicate_succ, List.flatten_cons, List.length_append, ih, Nat.succ_mul, Nat.add_comm]
theorem flat_add (c : List Value) (a b : Nat) : (List.replicate (a + b) c).flatten = (List.replicate a c).flatten ++ (List.replicate b c).flatten := by
  rw [← List.replicate_append_replicate, List.flatten_append]
theorem repCells_length {c z : List Value} {m n : Nat} (hz : z.length = c.length) (hn : n ≤ m) : (repCells c z m n).length = m * c.length := by
  rw [repCells, List.length_append, flat_len, flat_len, hz, ← Nat.add_mul]
  congr 1
  omega
/-- what a copy of the first k elements behind the first n does -/
theorem repCells_copy {c z : List Value} {m n k : Nat} (hz : z.length = c.length) (hk : n + k ≤ m) :
    (repCells c z m n).take (n * c.length) ++ (List.replicate k c).flatten ++ (repCells c z m n).drop (n * c.length + ((List.replicate k c).flatten).length) = repCells c z m (n + k) := by
  have h1 : (List.replicate (m - n) z).flatten = (List.replicate k z).flatten ++ (List.replicate (m - (n + k)) z).flatten := by
    rw [← flat_add]
    congr 2
    omega
  rw [flat_len]
  unfold repCells
  rw [List.take_append_of_le_length (by rw [flat_len]; omega), List.take_of_length_le (by rw [flat_len]; omega), h1, ← List.append_assoc, List.drop_append, List.drop_of_length_le (by rw [List.length_append, flat_len, flat_len, hz]; omega), List.nil_append, List.length_append, flat_len, flat_len, hz, Nat.sub_self, List.drop_zero, flat_add, List.append_assoc]
theorem reps_rep {α : Type} {R : α → List Value → Prop} {size : Nat} {x : α} {c : List Value} (hp : R x c) (hc : c.length = size) : ∀ n, Reps R size (List.replicate n x) (List.replicate n c).flatten
  | 0 => Reps.none R size
  | n + 1 => by
    rw [List.replicate_succ', flat_add c n 1]
    have := Reps.snoc (reps_rep hp hc n) hp hc
    simpa using this

theorem mul_one8 : ∀ m : Fin 9, bits_Mul.f 1 ((m.val : Nat) : Int) = some (0, ((m.val : Nat) : Int)) := by decide +kernel
theorem mul_one (m : Nat) (h : m ≤ 8) : bits_Mul.f 1 (m : Int) = some (0, (m : Int)) := mul_one8 ⟨m, by omega⟩

def slices_Repeat_int.f (l0 : List Int) (a1 : Int) : Option (List Int) := if l0.length = 1 ∧ 0 ≤ a1 ∧ a1 ≤ 8 then some (List.replicate a1.toNat (rd l0 0)) else none
theorem made_int (c : List Value) (m : Nat) (hm : m ≤ 8) : madeCells (.int .i64 0 : Value).cells (m * 1) = (repCells c [.int .i64 0] m 0).toArray := by
  have h : repCells c [.int .i64 0] m 0 = (List.replicate m ([.int .i64 0] : List Value)).flatten := by simp [repCells]
  rw [h]
  have e0 : madeCells (.int .i64 0 : Value).cells (0 * 1) = (List.replicate 0 ([.int .i64 0] : List Value)).flatten.toArray := by kernel_rfl
  have e1 : madeCells (.int .i64 0 : Value).cells (1 * 1) = (List.replicate 1 ([.int .i64 0] : List Value)).flatten.toArray := by kernel_rfl
  have e2 : madeCells (.int .i64 0 : Value).cells (2 * 1) = (List.replicate 2 ([.int .i64 0] : List Value)).flatten.toArray := by kernel_rfl
  have e3 : madeCells (.int .i64 0 : Value).cells (3 * 1) = (List.replicate 3 ([.int .i64 0] : List Value)).flatten.toArray := by kernel_rfl
  have e4 : madeCells (.int .i64 0 : Value).cells (4 * 1) = (List.replicate 4 ([.int .i64 0] : List Value)).flatten.toArray := by kernel_rfl
  have e5 : madeCells (.int .i64 0 : Value).cells (5 * 1) = (List.replicate 5 ([.int .i64 0] : List Value)).flatten.toArray := by kernel_rfl
  have e6 : madeCells (.int .i64 0 : Value).cells (6 * 1) = (List.replicate 6 ([.int .i64 0] : List Value)).flatten.toArray := by kernel_rfl
  have e7 : madeCells (.int .i64 0 : Value).cells (7 * 1) = (List.replicate 7 ([.int .i64 0] : List Value)).flatten.toArray := by kernel_rfl
  have e8 : madeCells (.int .i64 0 : Value).cells (8 * 1) = (List.replicate 8 ([.int .i64 0] : List Value)).flatten.toArray := by kernel_rfl
  match m, hm with
  | 0, _ => exact e0
  | 1, _ => exact e1
  | 2, _ => exact e2
  | 3, _ => exact e3
  | 4, _ => exact e4
  | 5, _ => exact e5
  | 6, _ => exact e6
  | 7, _ => exact e7
  | 8, _ => exact e8
  | n + 9, h => omega
set_option maxHeartbeats 4000000 in
set_option maxRecDepth 100000 in
theorem slices_Repeat_int.calls (A0 : Option Addr) (c0 : Nat) (l0 : List Int) (a1 : Int) (r : List Int) (w : World) (hr0 : Kd.C (Kd.int .i64) w A0 l0.length l0) (hc0 : l0.length ≤ c0) (h : slices_Repeat_int.f l0 a1 = some r) :
    Calls Try.prog 97 #[.slice A0 l0.length c0, .int .i64 a1] w fun e w' => ∃ v0_ : Value, e = .returned (v0_) ∧ Kd.R (Kd.int .i64) 3 w' w.heap.size (fun _ => True) v0_ r ∧ Below w.heap.size w w' := by
  unfold slices_Repeat_int.f at h
  by_cases hh : l0.length = 1 ∧ 0 ≤ a1 ∧ a1 ≤ 8
  rotate_left
  · rw [if_neg hh] at h; cases h
  rw [if_pos hh] at h
  obtain rfl := Option.some.inj h
  clear h
  obtain ⟨h1, h2, h3⟩ := hh
  obtain ⟨m, rfl⟩ := Int.eq_ofNat_of_zero_le h2
  have hm : m ≤ 8 := by omega
  have hw : IntKind.u64.wrap (m : Int) = (m : Int) := by rw [IntKind.wrap_u64]; omega
  have H := Aside0.mk (fun w => bits_Mul.calls 1 (IntKind.u64.wrap (m : Int)) 0 m w (by rw [hw]; exact mul_one m hm))
  obtain ⟨x, rfl⟩ : ∃ x, l0 = [x] := by
    match l0, h1 with
    | [x], _ => exact ⟨x, rfl⟩
  have HM := Aside0.mk hm
  obtain ⟨ad, rfl, hcell⟩ : ∃ ad, A0 = some ad ∧ ∀ j u, ([.int .i64 x] : List Value)[j]? = some u → w.cell? (ad.add j) = some u := by
    obtain ⟨ad, e, hx⟩ := hr0.2.2 (by simp)
    obtain ⟨c, k1, k2, k3⟩ := hx 0 x rfl
    obtain rfl : c = [.int .i64 x] := k2
    exact ⟨ad, e, fun j u hj => by simpa using k3 j u hj⟩
  have hlt : ad.block < w.heap.size := by
    have := hcell 0 _ rfl
    have := World.block_lt_of_cell? w _ this
    simpa [Addr.add] using this
  clear hr0 hc0 h1 h2 h3 hw
  have hu := Try.underlying25
  obtain ⟨inf, hi, hz⟩ := Option.map_eq_some_iff.1 info3
  simp only [Prod.mk.injEq] at hz
  have he : ∀ W : World, (Instr.makeSlice 25 (.int .i64 (wrap64 (m : Int))) (.int .i64 (wrap64 (m : Int)))).run Try.prog W = .ok (.slice (some ⟨W.heap.size, 0, none⟩) m m) (W.alloc (.cells (repCells [.int .i64 x] [.int .i64 0] m 0).toArray 3)) := by
    intro W
    have := run_make (P := Try.prog) W 25 3 inf (.int .i64 0) hu hi hz.1 .i64 .i64 (m : Int) (m : Int) (by omega) (by omega) (by rw [hz.2.2]; omega) (by omega)
    rw [show wrap64 (m : Int) = (m : Int) by unfold wrap64; omega, this, hz.2.1, Int.toNat_natCast, made_int [.int .i64 x] m hm]
  have hc1 : ∀ (nd : Nat), (Builtin.copy_ #[25, 25] 3 #[.slice (some ⟨w.heap.size, 0, none⟩) m m, .slice (some ad) 1 c0]).run Try.prog ((w.drewN nd).alloc (.cells (repCells [.int .i64 x] [.int .i64 0] m 0).toArray 3)) = .ok (.int .i64 ((Nat.min 1 m : Nat) : Int)) (((w.drewN nd).alloc (.cells (repCells [.int .i64 x] [.int .i64 0] m 0).toArray 3)).setRow w.heap.size (repCells [.int .i64 x] [.int .i64 0] m (Nat.min 1 m)).toArray) := by
    intro nd
    have hk := repCells_copy (c := [.int .i64 x]) (z := [.int .i64 0]) (m := m) (n := 0) (k := Nat.min 1 m) rfl (by have : Nat.min 1 m ≤ m := Nat.min_le_right 1 m; omega)
    have hsz := repCells_length (c := [.int .i64 x]) (z := [.int .i64 0]) (m := m) (n := 0) rfl (Nat.zero_le _)
    have := run_copy_rowZ (P := Try.prog) ((w.drewN nd).alloc (.cells (repCells [.int .i64 x] [.int .i64 0] m 0).toArray 3)) 25 25 3 3 w.heap.size 0 m m ad 1 c0 (repCells [.int .i64 x] [.int .i64 0] m 0).toArray 3 (List.replicate (Nat.min 1 m) ([.int .i64 x] : List Value)).flatten 1 hu (by rw [hi]; exact congrArg some hz.2.1) (by simp [World.alloc]) (flat_len _ _) (fun j v hj => by
      have hj' : ([.int .i64 x] : List Value)[j]? = some v := by
        rcases Nat.lt_or_ge 0 m with h | h
        · have e1 : Nat.min 1 m = 1 := Nat.min_eq_left h
          rw [e1] at hj
          simpa using hj
        · have e1 : Nat.min 1 m = 0 := by have : m = 0 := by omega
                                          subst this; rfl
          rw [e1] at hj
          simp at hj
      have hold := hcell j v hj'
      have := below_alloc (pw_below_drewN (Below.refl w.heap.size w) nd) (.cells (repCells [.int .i64 x] [.int .i64 0] m 0).toArray 3)
      exact pw_cell_below this hold) (by
      rw [flat_len]
      simp only [List.size_toArray, hsz]
      have := Nat.mul_le_mul_right ([.int .i64 x] : List Value).length (show Nat.min 1 m ≤ m from Nat.min_le_right 1 m)
      omega) (fun v hv => by
      obtain ⟨l, hl, hv⟩ := List.mem_flatten.1 hv
      obtain rfl := List.eq_of_mem_replicate hl
      simp at hv; subst hv; rfl)
    rw [this]
    simp only [Nat.zero_mul, Nat.zero_add] at hk
    simp only [Nat.zero_add, goInt]
    rw [hk]
  have hLen : (repCells ([.int .i64 x] : List Value) [.int .i64 0] m m).length = m * 1 := repCells_length (c := [.int .i64 x]) (z := [.int .i64 0]) rfl (Nat.le_refl m)
  have hr1 : Aside0 (∀ W : World, W.heap[w.heap.size]? = some (.cells (repCells [.int .i64 x] [.int .i64 0] m m).toArray 3 (0, 0)) → Kd.R (Kd.int .i64) 3 W w.heap.size (fun _ => True) (.slice (some ⟨w.heap.size, 0, none⟩) m m) (List.replicate m x)) := by
    refine ⟨fun W hW => ⟨fun _ _ => trivial, repCells [.int .i64 x] [.int .i64 0] m m, ⟨by rw [hLen, List.length_replicate]; rfl, .inr ⟨w.heap.size, m, _, by simp, Nat.le_refl _, hW, by simp, by simp only [maxLen]; omega, ?_, ?_⟩⟩, ?_⟩⟩
    · simp only [List.size_toArray]
      rw [hLen]
      exact Nat.le_refl _
    · rw [List.take_of_length_le]
      rw [List.length_replicate]
      show (repCells ([.int .i64 x] : List Value) [.int .i64 0] m m).length ≤ _
      rw [hLen]
      exact Nat.le_refl _
    · have : repCells ([.int .i64 x] : List Value) [.int .i64 0] m m = (List.replicate m ([.int .i64 x] : List Value)).flatten := by simp [repCells]
      rw [this]
      exact reps_rep (show (Kd.int .i64).M _ _ _ x [.int .i64 x] from rfl) rfl m
  clear hcell hLen
  have hg1 : decide ((m : Int) > 9223372036854775807) = false := by simp; omega
  have hg2 : decide ((9223372036854775807 : Int) < (m : Int)) = false := by simp; omega
  have hn : decide ((m : Int) < 0) = false := by simp
  clear hm
  go_enter Try.func97, Try.ntmps97
  go_wp2_with (first | (go_at_call 125; (with_reducible refine (H.out _).mono ?_); rintro e w' ⟨rfl, ⟨nd, rfl⟩⟩))
  have hB0 : Below w.heap.size w (((w.drewN nd).alloc (.cells (repCells [.int .i64 x] [.int .i64 0] m 0).toArray 3)).setRow w.heap.size (repCells [.int .i64 x] [.int .i64 0] m (Nat.min 1 m)).toArray) := below_setRow (below_alloc (pw_below_drewN (Below.refl w.heap.size w) nd) _) (Nat.le_refl _) _
  have hH0 : (((w.drewN nd).alloc (.cells (repCells [.int .i64 x] [.int .i64 0] m 0).toArray 3)).setRow w.heap.size (repCells [.int .i64 x] [.int .i64 0] m (Nat.min 1 m)).toArray).heap[w.heap.size]? = some (.cells (repCells [.int .i64 x] [.int .i64 0] m (Nat.min 1 m)).toArray 3 (0, 0)) := setRow_heap _ _ (repCells [.int .i64 x] [.int .i64 0] m 0).toArray _ _ _ (by simp [World.alloc])
  go_loopg [8] 8 (fun kq v8 w' => ∃ n : Nat, v8 = .int .i64 (n : Int) ∧ Aside0 (n ≤ m ∧ (n = 0 → m = 0)) ∧ Aside0 (m ≤ kq + n) ∧ Aside0 (w'.heap[w.heap.size]? = some (.cells (repCells [.int .i64 x] [.int .i64 0] m n).toArray 3 (0, 0))) ∧ Aside0 (Below w.heap.size w w'))
  case atStart =>
    exact ⟨Nat.min 1 m, rfl, ⟨Nat.min_le_right _ _, fun h => by rcases Nat.lt_or_ge 0 m with h' | h'; rw [show Nat.min 1 m = 1 from Nat.min_eq_left h'] at h; omega; omega⟩, ⟨by have := HM.out; omega⟩, ⟨hH0⟩, ⟨hB0⟩⟩
  case round =>
    clear hB0 hH0 hc1 he H hg1 hg2 hn
    obtain ⟨n, rfl, HN, HK, HH, HB⟩ := hrel
    by_cases hlt : n < m
    · cases gk with
      | zero => exact absurd HK.out (by omega)
      | succ k1 =>
      have hd : decide ((n : Int) < (m : Int)) = true := by simp; exact hlt
      have hd2 : decide (n < m) = true := by simp; exact hlt
      have hs1 : ∀ W : World, (Instr.slice 25 (.slice (some ⟨w.heap.size, 0, none⟩) m m) (some (.int .i64 (n : Int))) none none).run Try.prog W = .ok (.slice (some ⟨w.heap.size, n, none⟩) (m - n) (m - n)) W := by
        intro W
        have := cut_from 25 3 .i64 hu hi 1 hz.2.1 (some ⟨w.heap.size, 0, none⟩) m m (n : Int) (by omega) (by omega) W
        rw [this, Int.toNat_natCast, if_neg (by omega), Option.map_some, add0]
        simp only [Nat.mul_one]
      have hs2 : ∀ W : World, (Instr.slice 25 (.slice (some ⟨w.heap.size, 0, none⟩) m m) none (some (.int .i64 (n : Int))) none).run Try.prog W = .ok (.slice (some ⟨w.heap.size, 0, none⟩) n m) W := by
        intro W
        have := cut_to 25 3 .i64 hu hi (some ⟨w.heap.size, 0, none⟩) m m (n : Int) (by omega) (by omega) (Nat.le_refl _) W
        rw [this, Int.toNat_natCast]
      have hcp : ∀ W : World, W.heap[w.heap.size]? = some (.cells (repCells [.int .i64 x] [.int .i64 0] m n).toArray 3 (0, 0)) → (Builtin.copy_ #[25, 25] 3 #[.slice (some ⟨w.heap.size, n, none⟩) (m - n) (m - n), .slice (some ⟨w.heap.size, 0, none⟩) n m]).run Try.prog W = .ok (.int .i64 ((Nat.min n (m - n) : Nat) : Int)) (W.setRow w.heap.size (repCells [.int .i64 x] [.int .i64 0] m (n + Nat.min n (m - n))).toArray) := by
        intro W hHd
        have hoff : (n : Nat) = n * ([.int .i64 x] : List Value).length := by simp
        have hmn1 : Nat.min n (m - n) ≤ n := Nat.min_le_left _ _
        have hmn2 : Nat.min n (m - n) ≤ m - n := Nat.min_le_right _ _
        have hk := repCells_copy (c := [.int .i64 x]) (z := [.int .i64 0]) (m := m) (n := n) (k := Nat.min n (m - n)) rfl (by omega)
        have hsz := repCells_length (c := [.int .i64 x]) (z := [.int .i64 0]) (m := m) (n := n) rfl (by omega)
        have := run_copy_rowZ (P := Try.prog) W 25 25 3 3 w.heap.size (n) (m - n) (m - n) ⟨w.heap.size, 0, none⟩ n m (repCells [.int .i64 x] [.int .i64 0] m n).toArray 3 (List.replicate (Nat.min n (m - n)) ([.int .i64 x] : List Value)).flatten 1 hu (by rw [hi]; exact congrArg some hz.2.1) hHd (flat_len _ _) (fun j v hj => by
          have hj2 : (repCells ([.int .i64 x] : List Value) [.int .i64 0] m n)[j]? = some v := by
            obtain ⟨hjl, rfl⟩ := List.getElem?_eq_some_iff.1 hj
            unfold repCells
            have e1 : (List.replicate n ([.int .i64 x] : List Value)).flatten = (List.replicate (Nat.min n (m - n)) ([.int .i64 x] : List Value)).flatten ++ (List.replicate (n - Nat.min n (m - n)) ([.int .i64 x] : List Value)).flatten := by
              rw [← flat_add]
              congr 2
              omega
            rw [e1, List.append_assoc, List.getElem?_append_left hjl, List.getElem?_eq_getElem hjl]
          obtain ⟨hjl, hjv⟩ := List.getElem?_eq_some_iff.1 hj2
          rw [add0]
          simp [World.cell?, hHd, hjl, hjv]) (by
          rw [flat_len]
          simp only [List.size_toArray, hsz]
          have : (n : Nat) + Nat.min n (m - n) * ([.int .i64 x] : List Value).length = (n + Nat.min n (m - n)) * ([.int .i64 x] : List Value).length := by rw [Nat.add_mul, ← hoff]
          rw [this]
          exact Nat.mul_le_mul_right _ (by omega)) (fun v hv => by
          obtain ⟨l, hl, hv⟩ := List.mem_flatten.1 hv
          obtain rfl := List.eq_of_mem_replicate hl
          simp at hv; subst hv; rfl)
        rw [this]
        rw [← hoff] at hk
        exact congrArg (fun l : List Value => Result.ok (Value.int .i64 ((Nat.min n (m - n) : Nat) : Int)) (W.setRow w.heap.size l.toArray)) hk
      have hsum : IntKind.i64.wrap ((n : Int) + ((Nat.min n (m - n) : Nat) : Int)) = ((n + Nat.min n (m - n) : Nat) : Int) := by
        have hmn2 : Nat.min n (m - n) ≤ m - n := Nat.min_le_right _ _
        have := HM.out
        rw [IntKind.wrap_i64]
        omega
      go_wp2
      go_region_law (refine step_copy_run rfl (.tmp 41) (.tmp 44) 25 25 rfl (.slice (some ⟨w.heap.size, n, none⟩) (m - n) (m - n)) (.slice (some ⟨w.heap.size, 0, none⟩) n m) (by first | (go_simp; done) | (go_simp; rfl)) (by first | (go_simp; done) | (go_simp; rfl)) _ _ (hcp _ HH.out) ?_)
      have hmn : 0 < Nat.min n (m - n) := by
        have h1 := HN.out
        exact Nat.lt_min.2 ⟨by omega, by omega⟩
      have hmn2 : Nat.min n (m - n) ≤ m - n := Nat.min_le_right _ _
      go_wp2
      go_roundg k1
      case measure => omega
      case rel =>
        refine ⟨n + Nat.min n (m - n), congrArg (Value.int .i64) (show (n : Int) + ((Nat.min n (m - n) : Nat) : Int) = ((n + Nat.min n (m - n) : Nat) : Int) by omega), ⟨by omega, by omega⟩, ⟨by have := HK.out; omega⟩, ⟨?_⟩, ⟨?_⟩⟩
        · exact setRow_heap _ _ _ _ _ _ HH.out
        · exact below_setRow (below_drew HB.out) (Nat.le_refl _) _
    · have hd : decide ((n : Int) < (m : Int)) = false := by simp; omega
      have hd2 : decide (n < m) = false := by simp; omega
      go_wp2
      go_ret
      have e : n = m := by have := HN.out; omega
      subst e
      exact ⟨_, rfl, hr1.out _ HH.out, HB.out⟩

end Go.Proofs.Ytdlaaccnaokdnaa.P
