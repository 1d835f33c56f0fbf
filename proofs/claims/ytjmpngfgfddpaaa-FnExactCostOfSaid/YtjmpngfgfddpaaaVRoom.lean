/- Two operations beside the print's words: a make with a length of 0 and a capacity, and a cut of the capacity to the length ('s[:len(s):len(s)]'). -/
import Derived.Test.YtjmpngfgfddpaaaVMore
import Derived.Test.YtjmpngfgfddpaaaVNEv
set_option linter.unusedVariables false
namespace Go.Proofs.YtjmpngfgfddpaaaV.PrintWords
open Go.RowKit
/-- the run of 's[:len(s):len(s)]' -/
theorem cut_clip {P : Program} (t e : TypeId) (kh km : IntKind) {i : TypeInfo} (ht : P.underlying t = some (.slice e)) (hi : P.info? e = some i) (A : Option Addr) (n c : Nat) (hc : n ≤ c) :
    ∀ W : World, (Instr.slice t (.slice A n c) none (some (.int kh (n : Int))) (some (.int km (n : Int)))).run P W = .ok (.slice A n n) W := by
  intro W
  have hel : P.elem t = e := by simp [Program.elem, ht]
  have hu : P.underlying t = some (.slice (P.elem t)) := by rw [hel]; exact ht
  have ha : (A.map fun x => x.add 0) = A := by cases A <;> simp [Addr.add]
  rw [run_slice_hm W t A n c hu kh km n n (by omega) (Int.le_refl _) (by omega), hel]
  simp [sizeOf, typeInfo, hi, sliced, Result.andThen, ha]
namespace Kd
section
variable {P : Program} {ops : Array Oper} {rest : List Oper} {o : Oper} {a : Act} {Q : Exit → Act → World → Prop} {α : Type}
theorem R_clip {d : Kd α} {e n c : Nat} {w : World} {base : Nat} {ok : Nat → Prop} {A : Option Addr} {xs : List α} (h : d.R e w base ok (.slice A n c) xs) : d.R e w base ok (.slice A n n) xs := by
  have hn : n = xs.length := (R_reads' h).1
  have hnc : n ≤ c := (R_reads' h).2.1
  obtain ⟨h0, inner, ho, hr⟩ := h
  have hb : ∀ x y : Nat, (Value.slice A n x).ownBlock = (Value.slice A n y).ownBlock := by
    intro x y
    cases A <;> rfl
  subst hn
  exact ⟨fun k hk => h0 k (by rw [hb _ xs.length]; exact hk), inner, ho.clip (Nat.le_refl _) hnc, by rw [hb xs.length c]; exact hr⟩
theorem S_clip {d : Kd α} {e n c : Nat} {w : World} {base : Nat} {ok : Nat → Prop} {A : Option Addr} {xs : List α} (h : S d e w base ok (.slice A n c) xs) : S d e w base ok (.slice A n n) xs := by
  obtain ⟨f, h⟩ := h
  exact ⟨f, R_clip h⟩
theorem N_clip {d : Kd α} {e n c : Nat} {w : World} {base : Nat} {ok : Nat → Prop} {A : Option Addr} {xs : List α} (h : N d e w base ok (.slice A n c) xs) : N d e w base ok (.slice A n n) xs := by
  obtain ⟨h0, rows, hl, hR, hf⟩ := h
  have hb : ∀ x y : Nat, (Value.slice A n x).ownBlock = (Value.slice A n y).ownBlock := by
    intro x y
    cases A <;> rfl
  refine ⟨fun k hk => h0 k (by rw [hb _ n]; exact hk), rows, hl, ?_, fun j x cc hx hc => ?_⟩
  · have := R_clip hR
    rw [hb c n] at this
    exact this
  · rw [hb n c]
    exact hf j x cc hx hc
theorem R_types2 {d : Kd α} {e g t : Nat} {w : World} {base : Nat} {ok : Nat → Prop} {v v2 : Value} {xs : List α} (h : d.R e w base ok v xs) (hb : ∀ k, v2.ownBlock = some k → ∃ cells, w.heap[k]? = some (.cells cells t (0, 0))) (hg : v2.ownBlock = some g) (ht : ∀ q, q ∈ e :: d.E → q ≠ t) : d.R e w base (fun k => ok k ∧ k ≠ g) v xs := by
  obtain ⟨c, hc⟩ := hb g hg
  exact R_types h hc ht
theorem S_types2 {d : Kd α} {e g t : Nat} {w : World} {base : Nat} {ok : Nat → Prop} {v v2 : Value} {xs : List α} (h : S d e w base ok v xs) (hb : ∀ k, v2.ownBlock = some k → ∃ cells, w.heap[k]? = some (.cells cells t (0, 0))) (hg : v2.ownBlock = some g) (ht : ∀ q, q ∈ e :: d.E → q ≠ t) : S d e w base (fun k => ok k ∧ k ≠ g) v xs := by
  obtain ⟨c, hc⟩ := hb g hg
  exact S_types h hc ht
theorem Q_types2 {d : Kd α} {e g t : Nat} {w : World} {base : Nat} {ok : Nat → Prop} {v v2 : Value} {xs : List α} (h : d.Q e w base ok v xs) (hb : ∀ k, v2.ownBlock = some k → ∃ cells, w.heap[k]? = some (.cells cells t (0, 0))) (hg : v2.ownBlock = some g) (ht : ∀ q, q ∈ e :: d.E → q ≠ t) : d.Q e w base (fun k => ok k ∧ k ≠ g) v xs := by
  obtain ⟨c, hc⟩ := hb g hg
  exact Q_types h hc ht
/-- make([]T, 0, c): no element; room for c. -/
theorem R_room (d : Kd α) {w0 W : World} (base e : Nat) (hgd : o.guard = none) {N : Tmp} (hd : o.dst = some N) (t : TypeId) (x y : Operand) (ho : o.op = .makeSlice t x y) (n : Int) (hx : a.eval x = .int .i64 0) (hy : a.eval y = .int .i64 n)
    (ht : P.underlying t = some (.slice e)) (z : Value) (bytes : Nat) (hinfo : (P.info? e).map (fun i => (i.zero, i.size, i.bytes)) = some (some z, d.sz, bytes)) (hz : z.cells.size = d.sz) (hb0 : 0 < bytes)
    {ok : Nat → Prop} (hfresh : ok W.heap.size) (h0 : 0 ≤ n) (hl : n.toNat * bytes ≤ 281474976710656) (HB : Below base w0 W) (hbase : base ≤ W.heap.size)
    (h : ∀ v1 w1, d.R e w1 base ok v1 [] → Below base w0 w1 → W.grownBy w1 none → (∃ b, v1.ownBlock = some b ∧ W.heap.size ≤ b) → wpList P ops Q rest (a.put o.dst v1) w1) : wpList P ops Q (o :: rest) a W := by
  obtain ⟨m, rfl⟩ := Int.eq_ofNat_of_zero_le h0
  simp only [Int.toNat_natCast] at hl
  obtain ⟨i0, hi, hzz⟩ := Option.map_eq_some_iff.1 hinfo
  simp only [Prod.mk.injEq] at hzz
  obtain ⟨hz0, hz1, hz2⟩ := hzz
  have hm : m ≤ 281474976710656 := Nat.le_trans (Nat.le_mul_of_pos_right _ hb0) hl
  have hr := run_make (P := P) W t e i0 z ht hi hz0 .i64 .i64 (0 : Int) (m : Int) (by omega) (by omega)
    (by
      have h3 : ((i0.bytes * m : Nat) : Int) ≤ 281474976710656 := by rw [hz2, Nat.mul_comm]; omega
      rwa [Int.natCast_mul] at h3) (by omega)
  simp only [Int.toNat_natCast] at hr
  rw [hz1] at hr
  have hown : (W.alloc (.cells (madeCells z.cells (m * d.sz)) e)).ownsWeak base e d.sz (.slice (some ⟨W.heap.size, 0, none⟩) 0 m) 0 [] := by
    have h2 := World.ownsWeak_room (base := base) (e := e) (size := d.sz) W (madeCells z.cells (m * d.sz)) 0 m hbase (Nat.zero_le _) (by simp only [maxLen]; omega) (by simp [size_madeCells])
    simpa using h2
  refine event_run (w1 := W.alloc (.cells (madeCells z.cells (m * d.sz)) e)) (v := .slice (some ⟨W.heap.size, 0, none⟩) 0 m) hgd ?_ (h _ _ ⟨fun k hk => ?_, [], hown, Reps.none _ _⟩ (HB.alloc hbase _) (World.grownBy_alloc W _ none) ⟨W.heap.size, by simp [Value.ownBlock], Nat.le_refl _⟩)
  · have hr' : Sem.run P (Instr.makeSlice t (Value.int IntKind.i64 0) (Value.int IntKind.i64 (m : Int))) W = Result.ok (Value.slice (some ⟨W.heap.size, 0, none⟩) 0 m) (W.alloc (Obj.cells (madeCells z.cells (m * d.sz)) e)) := by simpa using hr
    simp [execOp, ho, hx, hy, hr']
  · have : W.heap.size = k := by simpa [Value.ownBlock] using hk
    subst this
    exact hfresh
theorem S_room (d : Kd α) {w0 W : World} (base e : Nat) (hgd : o.guard = none) {N : Tmp} (hd : o.dst = some N) (t : TypeId) (x y : Operand) (ho : o.op = .makeSlice t x y) (n : Int) (hx : a.eval x = .int .i64 0) (hy : a.eval y = .int .i64 n)
    (ht : P.underlying t = some (.slice e)) (z : Value) (bytes : Nat) (hinfo : (P.info? e).map (fun i => (i.zero, i.size, i.bytes)) = some (some z, d.sz, bytes)) (hz : z.cells.size = d.sz) (hb0 : 0 < bytes)
    {ok : Nat → Prop} (hfresh : ok W.heap.size) (h0 : 0 ≤ n) (hl : n.toNat * bytes ≤ 281474976710656) (HB : Below base w0 W) (hbase : base ≤ W.heap.size)
    (h : ∀ v1 w1, S d e w1 base ok v1 [] → Below base w0 w1 → W.grownBy w1 none → (∃ b, v1.ownBlock = some b ∧ W.heap.size ≤ b) → wpList P ops Q rest (a.put o.dst v1) w1) : wpList P ops Q (o :: rest) a W :=
  R_room (tag (fun _ => 0) d) base e hgd hd t x y ho n hx hy ht z bytes hinfo hz hb0 hfresh h0 hl HB hbase (fun v1 w1 hr => h v1 w1 ⟨_, hr⟩)
theorem N_room (d : Kd α) {w0 W : World} (base e : Nat) (hgd : o.guard = none) {N' : Tmp} (hd : o.dst = some N') (t : TypeId) (x y : Operand) (ho : o.op = .makeSlice t x y) (n : Int) (hx : a.eval x = .int .i64 0) (hy : a.eval y = .int .i64 n)
    (ht : P.underlying t = some (.slice e)) (z : Value) (bytes : Nat) (hinfo : (P.info? e).map (fun i => (i.zero, i.size, i.bytes)) = some (some z, d.sz, bytes)) (hz : z.cells.size = d.sz) (hb0 : 0 < bytes)
    {ok : Nat → Prop} (hfresh : ok W.heap.size) (h0 : 0 ≤ n) (hl : n.toNat * bytes ≤ 281474976710656) (HB : Below base w0 W) (hbase : base ≤ W.heap.size)
    (h : ∀ v1 w1, N d e w1 base ok v1 [] → Below base w0 w1 → W.grownBy w1 none → (∃ b, v1.ownBlock = some b ∧ W.heap.size ≤ b) → wpList P ops Q rest (a.put o.dst v1) w1) : wpList P ops Q (o :: rest) a W :=
  R_room d base e hgd hd t x y ho n hx hy ht z bytes hinfo hz hb0 hfresh h0 hl HB hbase (fun v1 w1 hr => h v1 w1 (R_N hr))
theorem R_room_step (d : Kd α) {w0 W : World} (base e : Nat) {Kc : Act → World → Prop} (hw : Region.wanted o (yielded ops a.tmps) = true) {N : Tmp} (hd : o.dst = some N) (t : TypeId) (x y : Operand) (ho : o.op = .makeSlice t x y) (n : Int) (hx : a.eval x = .int .i64 0) (hy : a.eval y = .int .i64 n)
    (ht : P.underlying t = some (.slice e)) (z : Value) (bytes : Nat) (hinfo : (P.info? e).map (fun i => (i.zero, i.size, i.bytes)) = some (some z, d.sz, bytes)) (hz : z.cells.size = d.sz) (hb0 : 0 < bytes)
    {ok : Nat → Prop} (hfresh : ok W.heap.size) (h0 : 0 ≤ n) (hl : n.toNat * bytes ≤ 281474976710656) (HB : Below base w0 W) (hbase : base ≤ W.heap.size)
    (h : ∀ v1 w1, d.R e w1 base ok v1 [] → Below base w0 w1 → W.grownBy w1 none → (∃ b, v1.ownBlock = some b ∧ W.heap.size ≤ b) → Kc (a.put o.dst v1) w1) :
    if Region.wanted o (yielded ops a.tmps) = true then Oper.wp P o a W Kc Q else Kc (a.put o.dst undef) W := by
  rw [if_pos hw]
  obtain ⟨m, rfl⟩ := Int.eq_ofNat_of_zero_le h0
  simp only [Int.toNat_natCast] at hl
  obtain ⟨i0, hi, hzz⟩ := Option.map_eq_some_iff.1 hinfo
  simp only [Prod.mk.injEq] at hzz
  obtain ⟨hz0, hz1, hz2⟩ := hzz
  have hm : m ≤ 281474976710656 := Nat.le_trans (Nat.le_mul_of_pos_right _ hb0) hl
  have hr := run_make (P := P) W t e i0 z ht hi hz0 .i64 .i64 (0 : Int) (m : Int) (by omega) (by omega)
    (by
      have h3 : ((i0.bytes * m : Nat) : Int) ≤ 281474976710656 := by rw [hz2, Nat.mul_comm]; omega
      rwa [Int.natCast_mul] at h3) (by omega)
  simp only [Int.toNat_natCast] at hr
  rw [hz1] at hr
  have hown : (W.alloc (.cells (madeCells z.cells (m * d.sz)) e)).ownsWeak base e d.sz (.slice (some ⟨W.heap.size, 0, none⟩) 0 m) 0 [] := by
    have h2 := World.ownsWeak_room (base := base) (e := e) (size := d.sz) W (madeCells z.cells (m * d.sz)) 0 m hbase (Nat.zero_le _) (by simp only [maxLen]; omega) (by simp [size_madeCells])
    simpa using h2
  have hK := h (.slice (some ⟨W.heap.size, 0, none⟩) 0 m) (W.alloc (.cells (madeCells z.cells (m * d.sz)) e)) ⟨fun k hk => (by
      have : W.heap.size = k := by simpa [Value.ownBlock] using hk
      subst this
      exact hfresh), [], hown, Reps.none _ _⟩ (HB.alloc hbase _) (World.grownBy_alloc W _ none) ⟨W.heap.size, by simp [Value.ownBlock], Nat.le_refl _⟩
  have hr' : Sem.run P (Instr.makeSlice t (Value.int IntKind.i64 0) (Value.int IntKind.i64 (m : Int))) W = Result.ok (Value.slice (some ⟨W.heap.size, 0, none⟩) 0 m) (W.alloc (Obj.cells (madeCells z.cells (m * d.sz)) e)) := by simpa using hr
  unfold Oper.wp
  rw [show (execOp a.eval o).run P W = .ok (.value (.slice (some ⟨W.heap.size, 0, none⟩) 0 m)) (W.alloc (.cells (madeCells z.cells (m * d.sz)) e)) by simp [execOp, ho, hx, hy, hr']]
  exact hK
end
end Kd
end Go.Proofs.YtjmpngfgfddpaaaV.PrintWords
