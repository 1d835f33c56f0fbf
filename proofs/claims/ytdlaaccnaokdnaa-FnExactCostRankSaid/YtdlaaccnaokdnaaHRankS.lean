/- The two tables of a hierarchy in memory, while it is made: what a store does, what stays. -/
import Derived.Test.YtdlaaccnaokdnaaHUp
import Derived.Test.YtdlaaccnaokdnaaMRankG
set_option linter.unusedVariables false
set_option linter.unusedSimpArgs false
namespace Go.Proofs.Ytdlaaccnaokdnaa.P
open Go.RowKit Go.Proofs.Ytdlaaccnaokdnaa.M Go.Proofs.YtdlaaccnaokdnaaV.PrintWords Go.Proofs.YtdlaaccnaokdnaaV.PrintLast Go.Proofs.YtdlaaccnaokdnaaV.PrintMore
/-- a number is stored into a row of rows -/
theorem S_put {W : World} {base n c : Nat} {ok : Nat → Prop} {A' : Option Addr} {c' m : Nat} {xs : List (List Int)} {i j : Int} {a0 : Addr} (h : Kd.S (Kd.slice 3 (Kd.int .i64)) 25 W base ok (.slice (some a0) n c) xs) (hi0 : 0 ≤ i) (hi1 : i < xs.length) (hj0 : 0 ≤ j) (hj1 : j < (rd_L5 xs i).length) (hx : W.cell? (a0.add i.toNat) = some (.slice A' m c')) (x : Int) :
    ∃ g, A' = some ⟨g, 0, none⟩ ∧ base ≤ g ∧ ok g ∧ g < W.heap.size ∧ (∃ cells, W.heap[g]? = some (.cells cells 3 (0, 0))) ∧ W.cell? ⟨g, j.toNat, none⟩ = some (.int .i64 (rd (rd_L5 xs i) j)) ∧ W.frozen? ⟨g, j.toNat, none⟩ = false ∧ Kd.S (Kd.slice 3 (Kd.int .i64)) 25 (W.setCell ⟨g, j.toNat, none⟩ (.int .i64 x)) base ok (.slice (some a0) n c) (xs.set i.toNat ((rd_L5 xs i).set j.toNat x)) := by
  have hn : n = xs.length := (Kd.S_reads' h).1
  obtain ⟨oki, ce, hcl, hM, hcc, hok, hbk⟩ := Kd.S_borrow h [] i hi0 (by omega)
  obtain ⟨ve, rfl, ge⟩ := hM
  have hv := hcc 0 _ rfl
  rw [Nat.add_zero, show (Kd.slice 3 (Kd.int .i64)).sz = 1 from rfl, Nat.mul_one] at hv
  replace hv := Option.some.inj (hv.symm.trans hx)
  subst hv
  replace ge := (show Kd.R (Kd.int .i64) 3 _ _ _ _ (rd_L5 xs i) from ge)
  obtain ⟨go, co, eo, gb, gl, cl, HG⟩ := Kd.R_form ge (by omega)
  injection eo with e1 e2 e3
  subst e1; subst e3
  obtain ⟨hx0, hf0⟩ := Kd.R_celln 0 ge j hj0 (by omega)
  have HP := Kd.R_putg ge j x
  have HS := hbk HP.2 (fun k_ e_ => by injection e_ with e_; subst e_; exact ge.1 _ rfl) (x' := (rd_L5 xs i).set j.toNat x) (Kd.M_row HP.1)
  exact ⟨go, rfl, gb, (hok go (ge.1 go rfl)).1, gl, ⟨cl, HG⟩, hx0, hf0, HS⟩
/-- both tables lie in blocks of their own, behind what lay at first; some rows and boxes besides -/
structure RkW (w : World) (bs : List (Nat × Array Value × TypeId)) (rs : List (Value × List Int)) (lo mid : Nat) (aC : Addr) (cC : Nat) (aV : Addr) (cV : Nat) (n : Nat) (s : Tabs) (wr : World) : Prop where
  hC : Kd.S (Kd.slice 3 (Kd.int .i64)) 25 wr w.heap.size (fun k => lo ≤ k ∧ k < mid) (.slice (some aC) n cC) (mat n s.1)
  hV : Kd.S (Kd.slice 3 (Kd.int .i64)) 25 wr w.heap.size (fun k => mid ≤ k) (.slice (some aV) n cV) (mat n s.2)
  hR : ∀ p ∈ rs, Kd.R (Kd.int .i64) 3 wr w.heap.size (fun k => k < lo) p.1 p.2
  hX : ∀ p ∈ bs, p.2.2 ≠ 3 ∧ p.2.2 ≠ 25 ∧ wr.heap[p.1]? = some (.cells p.2.1 p.2.2 (0, 0))
  hB : Below w.heap.size w wr
section
variable {w wr : World} {bs : List (Nat × Array Value × TypeId)} {rs : List (Value × List Int)} {lo mid : Nat} {aC aV : Addr} {cC cV n : Nat} {s : Tabs}
theorem RkW.below {w1 : World} (h : RkW w bs rs lo mid aC cC aV cV n s wr) (hb : Below wr.heap.size wr w1) : RkW w bs rs lo mid aC cC aV cV n s w1 :=
  ⟨Kd.S_below h.hC hb, Kd.S_below h.hV hb, fun p hp => Kd.R_below (h.hR p hp) hb, fun p hp => ⟨(h.hX p hp).1, (h.hX p hp).2.1, blk_below (h.hX p hp).2.2 hb⟩, below_step h.hB hb⟩
theorem RkW.drewN (h : RkW w bs rs lo mid aC cC aV cV n s wr) (m : Nat) : RkW w bs rs lo mid aC cC aV cV n s (wr.drewN m) := h.below (pw_below_drewN (Below.refl _ _) m)
theorem RkW.drew (h : RkW w bs rs lo mid aC cC aV cV n s wr) : RkW w bs rs lo mid aC cC aV cV n s wr.drew := h.below (below_drew1 (Below.refl _ _))
theorem RkW.hdC (h : RkW w bs rs lo mid aC cC aV cV n s wr) {a : Int} (a0 : 0 ≤ a) (a1 : a < n) : ∃ g c, wr.cell? (aC.add a.toNat) = some (.slice (some ⟨g, 0, none⟩) n c) ∧ ∀ b : Int, 0 ≤ b → b < n → wr.cell? ⟨g, b.toNat, none⟩ = some (.int .i64 (s.1 a b)) := by
  obtain ⟨ad, A, c, e, hx, hl, hi⟩ := at_L5 (Kd.S_reads' h.hC).2.2 a a0 (by rw [mat_len]; omega)
  cases e
  rw [mat_row_len s.1 a0 a1] at hx
  obtain ⟨g, eg, _, _, _, _, _, _, _⟩ := S_put h.hC a0 (by rw [mat_len]; omega) a0 (by rw [mat_row_len s.1 a0 a1]; omega) hx 0
  subst eg
  refine ⟨g, c, hx, fun b b0 b1 => ?_⟩
  obtain ⟨g', eg, _, _, _, _, h0, _, _⟩ := S_put h.hC a0 (by rw [mat_len]; omega) b0 (by rw [mat_row_len s.1 a0 a1]; omega) hx 0
  cases eg
  rwa [rd_mat2 s.1 a0 a1 b0 b1] at h0
theorem RkW.hdV (h : RkW w bs rs lo mid aC cC aV cV n s wr) {a : Int} (a0 : 0 ≤ a) (a1 : a < n) : ∃ g c, wr.cell? (aV.add a.toNat) = some (.slice (some ⟨g, 0, none⟩) n c) ∧ ∀ b : Int, 0 ≤ b → b < n → wr.cell? ⟨g, b.toNat, none⟩ = some (.int .i64 (s.2 a b)) := by
  obtain ⟨ad, A, c, e, hx, hl, hi⟩ := at_L5 (Kd.S_reads' h.hV).2.2 a a0 (by rw [mat_len]; omega)
  cases e
  rw [mat_row_len s.2 a0 a1] at hx
  obtain ⟨g, eg, _, _, _, _, _, _, _⟩ := S_put h.hV a0 (by rw [mat_len]; omega) a0 (by rw [mat_row_len s.2 a0 a1]; omega) hx 0
  subst eg
  refine ⟨g, c, hx, fun b b0 b1 => ?_⟩
  obtain ⟨g', eg, _, _, _, _, h0, _, _⟩ := S_put h.hV a0 (by rw [mat_len]; omega) b0 (by rw [mat_row_len s.2 a0 a1]; omega) hx 0
  cases eg
  rwa [rd_mat2 s.2 a0 a1 b0 b1] at h0
theorem box_far {g g' j : Nat} {cs cs' : Array Value} {t t' : TypeId} (h : wr.heap[g]? = some (.cells cs t (0, 0))) (h' : wr.heap[g']? = some (.cells cs' t' (0, 0))) (ht : t ≠ t') (u : Value) : (wr.setCell ⟨g', j, none⟩ u).heap[g]? = some (.cells cs t (0, 0)) :=
  blk_far h (by
    intro e
    replace e : g = g' := e
    subst e
    rw [h] at h'
    injection h' with h'
    injection h' with h1 h2 h3
    exact ht h2) u
theorem RkW.putC (h : RkW w bs rs lo mid aC cC aV cV n s wr) {a b : Int} (a0 : 0 ≤ a) (a1 : a < n) (b0 : 0 ≤ b) (b1 : b < n) {g c : Nat} (hx : wr.cell? (aC.add a.toNat) = some (.slice (some ⟨g, 0, none⟩) n c)) (x : Int) :
    wr.frozen? ⟨g, b.toNat, none⟩ = false ∧ RkW w bs rs lo mid aC cC aV cV n (upd s.1 a b x, s.2) (wr.setCell ⟨g, b.toNat, none⟩ (.int .i64 x)) := by
  obtain ⟨g', eg, gb, gok, gl, ⟨cells, hcl⟩, h0, hf, hS⟩ := S_put h.hC a0 (by rw [mat_len]; omega) b0 (by rw [mat_row_len s.1 a0 a1]; omega) hx x
  cases eg
  rw [mat_put s.1 a0 a1 b0] at hS
  refine ⟨hf, hS, Kd.S_far h.hV (p := ⟨g, b.toNat, none⟩) (fun k hk => ?_) _, fun p hp => Kd.R_far (h.hR p hp) (p := ⟨g, b.toNat, none⟩) (fun k hk => ?_) _, fun p hp => ⟨(h.hX p hp).1, (h.hX p hp).2.1, box_far (h.hX p hp).2.2 hcl (h.hX p hp).1 _⟩, below_set h.hB gb⟩
  · show k ≠ g; omega
  · show k ≠ g; omega
theorem RkW.putV (h : RkW w bs rs lo mid aC cC aV cV n s wr) {a b : Int} (a0 : 0 ≤ a) (a1 : a < n) (b0 : 0 ≤ b) (b1 : b < n) {g c : Nat} (hlm : lo ≤ mid) (hx : wr.cell? (aV.add a.toNat) = some (.slice (some ⟨g, 0, none⟩) n c)) (x : Int) :
    wr.frozen? ⟨g, b.toNat, none⟩ = false ∧ RkW w bs rs lo mid aC cC aV cV n (s.1, upd s.2 a b x) (wr.setCell ⟨g, b.toNat, none⟩ (.int .i64 x)) := by
  obtain ⟨g', eg, gb, gok, gl, ⟨cells, hcl⟩, h0, hf, hS⟩ := S_put h.hV a0 (by rw [mat_len]; omega) b0 (by rw [mat_row_len s.2 a0 a1]; omega) hx x
  cases eg
  rw [mat_put s.2 a0 a1 b0] at hS
  refine ⟨hf, Kd.S_far h.hC (p := ⟨g, b.toNat, none⟩) (fun k hk => ?_) _, hS, fun p hp => Kd.R_far (h.hR p hp) (p := ⟨g, b.toNat, none⟩) (fun k hk => ?_) _, fun p hp => ⟨(h.hX p hp).1, (h.hX p hp).2.1, box_far (h.hX p hp).2.2 hcl (h.hX p hp).1 _⟩, below_set h.hB gb⟩
  · show k ≠ g; omega
  · show k ≠ g; omega
end
theorem S_some {W : World} {base n : Nat} {ok : Nat → Prop} {v : Value} {F : Int → Int → Int} (h : Kd.S (Kd.slice 3 (Kd.int .i64)) 25 W base ok v (mat n F)) (hn : 0 < n) : ∃ a c, v = .slice (some a) n c := by
  obtain ⟨g, c, e, _⟩ := Kd.R_form (Kd.S_R h) (by rw [mat_len]; exact hn)
  rw [mat_len] at e
  exact ⟨_, c, e⟩
/-- the box of the hierarchy is filled -/
theorem RkW_make {w W : World} {bs : List (Nat × Array Value × TypeId)} {lo mid g5 : Nat} {aC aV : Addr} {cC cV n : Nat} {s : Tabs} {v : Value} {l : List Int} (hO : Kd.R (Kd.int .i64) 3 W w.heap.size (fun k => k < lo) v l)
    (hC : Kd.S (Kd.slice 3 (Kd.int .i64)) 25 W w.heap.size (fun k => lo ≤ k ∧ k < mid) (.slice (some aC) n cC) (mat n s.1)) (hV : Kd.S (Kd.slice 3 (Kd.int .i64)) 25 W w.heap.size (fun k => mid ≤ k) (.slice (some aV) n cV) (mat n s.2))
    (hX : ∀ p ∈ bs, p.2.2 ≠ 3 ∧ p.2.2 ≠ 25 ∧ p.1 ≠ g5 ∧ W.heap[p.1]? = some (.cells p.2.1 p.2.2 (0, 0))) (hb : W.heap[g5]? = some (.cells #[.slice none 0 0, .slice none 0 0, .slice none 0 0] 37 (0, 0))) (hB : Below w.heap.size w W) (hg : w.heap.size ≤ g5) :
    RkW w ((g5, #[v, .slice (some aC) n cC, .slice (some aV) n cV], 37) :: bs) [(v, l)] lo mid aC cC aV cV n s (((W.setCell ⟨g5, 0, none⟩ v).setCell ⟨g5, 1, none⟩ (.slice (some aC) n cC)).setCell ⟨g5, 2, none⟩ (.slice (some aV) n cV)) := by
  have hn : ∀ k, k ≠ g5 → ((((W.setCell ⟨g5, 0, none⟩ v).setCell ⟨g5, 1, none⟩ (.slice (some aC) n cC)).setCell ⟨g5, 2, none⟩ (.slice (some aV) n cV))).heap[k]? = W.heap[k]? := fun k hk =>
    (Below.heap_setCell _ ⟨g5, 2, none⟩ _ k hk).trans ((Below.heap_setCell _ ⟨g5, 1, none⟩ _ k hk).trans (Below.heap_setCell _ ⟨g5, 0, none⟩ _ k hk))
  refine ⟨?_, ?_, fun p hp => ?_, fun p hp => ?_, ?_⟩
  · exact Kd.S_mono (Kd.S_far (p := ⟨g5, 2, none⟩) (Kd.S_far (p := ⟨g5, 1, none⟩) (Kd.S_far (p := ⟨g5, 0, none⟩) (Kd.S_types hC hb (by decide)) (fun _ hk => hk.2) _) (fun _ hk => hk.2) _) (fun _ hk => hk.2) _) (fun _ hk => hk.1)
  · exact Kd.S_mono (Kd.S_far (p := ⟨g5, 2, none⟩) (Kd.S_far (p := ⟨g5, 1, none⟩) (Kd.S_far (p := ⟨g5, 0, none⟩) (Kd.S_types hV hb (by decide)) (fun _ hk => hk.2) _) (fun _ hk => hk.2) _) (fun _ hk => hk.2) _) (fun _ hk => hk.1)
  · obtain rfl := List.mem_singleton.1 hp
    exact Kd.R_mono (Kd.R_far (p := ⟨g5, 2, none⟩) (Kd.R_far (p := ⟨g5, 1, none⟩) (Kd.R_far (p := ⟨g5, 0, none⟩) (Kd.R_types hO hb (by decide)) (fun _ hk => hk.2) _) (fun _ hk => hk.2) _) (fun _ hk => hk.2) _) (fun _ hk => hk.1)
  · rcases List.mem_cons.1 hp with rfl | hp
    · exact ⟨show (37 : Nat) ≠ 3 by decide, show (37 : Nat) ≠ 25 by decide, pu3 _ _ _ hb⟩
    · exact ⟨(hX p hp).1, (hX p hp).2.1, (hn p.1 (hX p hp).2.2.1).trans (hX p hp).2.2.2⟩
  · exact below_set (below_set (below_set hB hg) hg) hg
theorem RkW.cons {w wr : World} {bs : List (Nat × Array Value × TypeId)} {rs : List (Value × List Int)} {lo mid : Nat} {aC aV : Addr} {cC cV n : Nat} {s : Tabs} (h : RkW w bs rs lo mid aC cC aV cV n s wr) {g : Nat} {cs : Array Value} {t : TypeId} (ht : t ≠ 3 ∧ t ≠ 25) (hb : wr.heap[g]? = some (.cells cs t (0, 0))) : RkW w ((g, cs, t) :: bs) rs lo mid aC cC aV cV n s wr :=
  ⟨h.hC, h.hV, h.hR, fun p hp => by
    rcases List.mem_cons.1 hp with rfl | hp
    · exact ⟨ht.1, ht.2, hb⟩
    · exact h.hX p hp, h.hB⟩
theorem RkW.tail {w wr : World} {b : Nat × Array Value × TypeId} {bs : List (Nat × Array Value × TypeId)} {rs : List (Value × List Int)} {lo mid : Nat} {aC aV : Addr} {cC cV n : Nat} {s : Tabs} (h : RkW w (b :: bs) rs lo mid aC cC aV cV n s wr) : RkW w bs rs lo mid aC cC aV cV n s wr :=
  ⟨h.hC, h.hV, h.hR, fun p hp => h.hX p (List.mem_cons_of_mem _ hp), h.hB⟩
theorem kinds2 {t : TypeId} (ht : t ≠ 3 ∧ t ≠ 25) : ∀ q, q ∈ 25 :: (Kd.slice 3 (Kd.int .i64)).E → q ≠ t := by
  intro q hq e
  subst e
  have hq : q ∈ ([25, 3] : List Nat) := hq
  simp only [List.mem_cons, List.not_mem_nil, or_false] at hq
  rcases hq with e | e
  · exact ht.2 e
  · exact ht.1 e
theorem kinds1 {t : TypeId} (ht : t ≠ 3 ∧ t ≠ 25) : ∀ q, q ∈ 3 :: (Kd.int .i64).E → q ≠ t := by
  intro q hq e
  subst e
  have hq : q ∈ ([3] : List Nat) := hq
  simp only [List.mem_cons, List.not_mem_nil, or_false] at hq
  exact ht.1 hq
/-- a box of its own is written: nothing else moves -/
theorem RkW.setBox {w wr : World} {bs : List (Nat × Array Value × TypeId)} {rs : List (Value × List Int)} {lo mid : Nat} {aC aV : Addr} {cC cV n : Nat} {s : Tabs} (h : RkW w bs rs lo mid aC cC aV cV n s wr) {g j : Nat} {cs : Array Value} {t : TypeId} (ht : t ≠ 3 ∧ t ≠ 25) (hb : wr.heap[g]? = some (.cells cs t (0, 0))) (hne : ∀ p ∈ bs, p.1 ≠ g) (hg : w.heap.size ≤ g) (u : Value) :
    RkW w bs rs lo mid aC cC aV cV n s (wr.setCell ⟨g, j, none⟩ u) :=
  ⟨Kd.S_mono (Kd.S_far (p := ⟨g, j, none⟩) (Kd.S_types h.hC hb (kinds2 ht)) (fun _ hk => hk.2) _) (fun _ hk => hk.1),
   Kd.S_mono (Kd.S_far (p := ⟨g, j, none⟩) (Kd.S_types h.hV hb (kinds2 ht)) (fun _ hk => hk.2) _) (fun _ hk => hk.1),
   fun p hp => Kd.R_mono (Kd.R_far (p := ⟨g, j, none⟩) (Kd.R_types (h.hR p hp) hb (kinds1 ht)) (fun _ hk => hk.2) _) (fun _ hk => hk.1),
   fun p hp => ⟨(h.hX p hp).1, (h.hX p hp).2.1, blk_far (h.hX p hp).2.2 (hne p hp) _⟩, below_set h.hB hg⟩
theorem RkW.set5 {w wr : World} {bs : List (Nat × Array Value × TypeId)} {rs : List (Value × List Int)} {lo mid : Nat} {aC aV : Addr} {cC cV n : Nat} {s : Tabs} (h : RkW w bs rs lo mid aC cC aV cV n s wr) {g : Nat} {cs : Array Value} {t : TypeId} (ht : t ≠ 3 ∧ t ≠ 25) (hb : wr.heap[g]? = some (.cells cs t (0, 0))) (hne : ∀ p ∈ bs, p.1 ≠ g) (hg : w.heap.size ≤ g) (u0 u1 u2 u3 u4 : Value) :
    RkW w bs rs lo mid aC cC aV cV n s (((((wr.setCell ⟨g, 0, none⟩ u0).setCell ⟨g, 1, none⟩ u1).setCell ⟨g, 2, none⟩ u2).setCell ⟨g, 3, none⟩ u3).setCell ⟨g, 4, none⟩ u4) :=
  ⟨Kd.S_mono (Kd.S_far (p := ⟨g, 4, none⟩) (Kd.S_far (p := ⟨g, 3, none⟩) (Kd.S_far (p := ⟨g, 2, none⟩) (Kd.S_far (p := ⟨g, 1, none⟩) (Kd.S_far (p := ⟨g, 0, none⟩) (Kd.S_types h.hC hb (kinds2 ht)) (fun _ hk => hk.2) _) (fun _ hk => hk.2) _) (fun _ hk => hk.2) _) (fun _ hk => hk.2) _) (fun _ hk => hk.2) _) (fun _ hk => hk.1), Kd.S_mono (Kd.S_far (p := ⟨g, 4, none⟩) (Kd.S_far (p := ⟨g, 3, none⟩) (Kd.S_far (p := ⟨g, 2, none⟩) (Kd.S_far (p := ⟨g, 1, none⟩) (Kd.S_far (p := ⟨g, 0, none⟩) (Kd.S_types h.hV hb (kinds2 ht)) (fun _ hk => hk.2) _) (fun _ hk => hk.2) _) (fun _ hk => hk.2) _) (fun _ hk => hk.2) _) (fun _ hk => hk.2) _) (fun _ hk => hk.1), fun p hp => Kd.R_mono (Kd.R_far (p := ⟨g, 4, none⟩) (Kd.R_far (p := ⟨g, 3, none⟩) (Kd.R_far (p := ⟨g, 2, none⟩) (Kd.R_far (p := ⟨g, 1, none⟩) (Kd.R_far (p := ⟨g, 0, none⟩) (Kd.R_types (h.hR p hp) hb (kinds1 ht)) (fun _ hk => hk.2) _) (fun _ hk => hk.2) _) (fun _ hk => hk.2) _) (fun _ hk => hk.2) _) (fun _ hk => hk.2) _) (fun _ hk => hk.1),
   fun p hp => ⟨(h.hX p hp).1, (h.hX p hp).2.1, blk_far (blk_far (blk_far (blk_far (blk_far (h.hX p hp).2.2 (p := ⟨g, 0, none⟩) (hne p hp) _) (p := ⟨g, 1, none⟩) (hne p hp) _) (p := ⟨g, 2, none⟩) (hne p hp) _) (p := ⟨g, 3, none⟩) (hne p hp) _) (p := ⟨g, 4, none⟩) (hne p hp) _⟩, below_set (below_set (below_set (below_set (below_set h.hB hg) hg) hg) hg) hg⟩
theorem RkW.fresh {w wr : World} {bs : List (Nat × Array Value × TypeId)} {rs : List (Value × List Int)} {lo mid : Nat} {aC aV : Addr} {cC cV n : Nat} {s : Tabs} (h : RkW w bs rs lo mid aC cC aV cV n s wr) {g : Nat} (hg : g = wr.heap.size) : ∀ p ∈ bs, p.1 ≠ g := fun p hp e => by
  have := blk_lt (h.hX p hp).2.2
  omega
/-- a rank's three parts, each in its own window of blocks -/
def Rk3 (W : World) (base lo mid : Nat) (v0 v1 v2 : Value) (r1 : List Int) (r2 r3 : List (List Int)) : Prop := lo ≤ mid ∧ Kd.R (Kd.int .i64) 3 W base (fun k => k < lo) v0 r1 ∧ Kd.S (Kd.slice 3 (Kd.int .i64)) 25 W base (fun k => lo ≤ k ∧ k < mid) v1 r2 ∧ Kd.S (Kd.slice 3 (Kd.int .i64)) 25 W base (fun k => mid ≤ k) v2 r3
theorem Rk3.weak {W : World} {base lo mid : Nat} {v0 v1 v2 : Value} {r1 : List Int} {r2 r3 : List (List Int)} (h : Rk3 W base lo mid v0 v1 v2 r1 r2 r3) : Kd.R (Kd.int .i64) 3 W base (fun _ => True) v0 r1 ∧ Kd.S (Kd.slice 3 (Kd.int .i64)) 25 W base (fun k_ => some k_ ≠ v0.ownBlock ∧ some k_ ≠ v2.ownBlock) v1 r2 ∧ Kd.S (Kd.slice 3 (Kd.int .i64)) 25 W base (fun k_ => some k_ ≠ v0.ownBlock ∧ some k_ ≠ v1.ownBlock) v2 r3 := by
  obtain ⟨hlm, h0, h1, h2⟩ := h
  have e0 : ∀ k, some k = v0.ownBlock → k < lo := fun k e => h0.1 k e.symm
  have e1 : ∀ k, some k = v1.ownBlock → lo ≤ k ∧ k < mid := fun k e => (Kd.S_R h1).1 k e.symm
  have e2 : ∀ k, some k = v2.ownBlock → mid ≤ k := fun k e => (Kd.S_R h2).1 k e.symm
  refine ⟨Kd.R_mono h0 (fun _ _ => trivial), Kd.S_mono h1 (fun k hk => ⟨fun e => ?_, fun e => ?_⟩), Kd.S_mono h2 (fun k hk => ⟨fun e => ?_, fun e => ?_⟩)⟩
  · have := e0 k e; omega
  · have := e2 k e; omega
  · have := e0 k e; omega
  · have := e1 k e; omega
theorem Rk3.below {W W1 : World} {base lo mid : Nat} {v0 v1 v2 : Value} {r1 : List Int} {r2 r3 : List (List Int)} (h : Rk3 W base lo mid v0 v1 v2 r1 r2 r3) (hb : Below W.heap.size W W1) : Rk3 W1 base lo mid v0 v1 v2 r1 r2 r3 := ⟨h.1, Kd.R_below h.2.1 hb, Kd.S_below h.2.2.1 hb, Kd.S_below h.2.2.2 hb⟩
theorem Rk3.lower {W : World} {base base' lo mid : Nat} {v0 v1 v2 : Value} {r1 : List Int} {r2 r3 : List (List Int)} (h : Rk3 W base lo mid v0 v1 v2 r1 r2 r3) (hb : base' ≤ base) : Rk3 W base' lo mid v0 v1 v2 r1 r2 r3 := ⟨h.1, Kd.R_lower h.2.1 hb, Kd.S_lower h.2.2.1 hb, Kd.S_lower h.2.2.2 hb⟩
theorem Rk3.nil (W : World) (base : Nat) : Rk3 W base 0 0 (.slice none 0 0) (.slice none 0 0) (.slice none 0 0) [] [] [] := ⟨Nat.le_refl _, Kd.R_nil _ _ _ _ _, Kd.S_nil _ _ _ _ _, Kd.S_nil _ _ _ _ _⟩
/-- a box of three cells is filled -/
theorem Rk3.set {wr : World} {base lo mid : Nat} {v0 v1 v2 : Value} {r1 : List Int} {r2 r3 : List (List Int)} (h : Rk3 wr base lo mid v0 v1 v2 r1 r2 r3) {g : Nat} {cs : Array Value} (hb : wr.heap[g]? = some (.cells cs 37 (0, 0))) (u0 u1 u2 : Value) : Rk3 (((wr.setCell ⟨g, 0, none⟩ u0).setCell ⟨g, 1, none⟩ u1).setCell ⟨g, 2, none⟩ u2) base lo mid v0 v1 v2 r1 r2 r3 :=
  ⟨h.1, Kd.R_mono (Kd.R_far (p := ⟨g, 2, none⟩) (Kd.R_far (p := ⟨g, 1, none⟩) (Kd.R_far (p := ⟨g, 0, none⟩) (Kd.R_types h.2.1 hb (by decide)) (fun _ hk => hk.2) _) (fun _ hk => hk.2) _) (fun _ hk => hk.2) _) (fun _ hk => hk.1), Kd.S_mono (Kd.S_far (p := ⟨g, 2, none⟩) (Kd.S_far (p := ⟨g, 1, none⟩) (Kd.S_far (p := ⟨g, 0, none⟩) (Kd.S_types h.2.2.1 hb (by decide)) (fun _ hk => hk.2) _) (fun _ hk => hk.2) _) (fun _ hk => hk.2) _) (fun _ hk => hk.1), Kd.S_mono (Kd.S_far (p := ⟨g, 2, none⟩) (Kd.S_far (p := ⟨g, 1, none⟩) (Kd.S_far (p := ⟨g, 0, none⟩) (Kd.S_types h.2.2.2 hb (by decide)) (fun _ hk => hk.2) _) (fun _ hk => hk.2) _) (fun _ hk => hk.2) _) (fun _ hk => hk.1)⟩
theorem RkW.finish {w wr : World} {bs : List (Nat × Array Value × TypeId)} {rs : List (Value × List Int)} {lo mid : Nat} {aC aV : Addr} {cC cV n : Nat} {s : Tabs} (h : RkW w bs rs lo mid aC cC aV cV n s wr) (hlm : lo ≤ mid) {v : Value} {l : List Int} (hv : (v, l) ∈ rs) {g : Nat} {cs : Array Value} (hb : wr.heap[g]? = some (.cells cs 37 (0, 0))) (hg : w.heap.size ≤ g) (u0 u1 u2 : Value) :
    Rk3 (((wr.setCell ⟨g, 0, none⟩ u0).setCell ⟨g, 1, none⟩ u1).setCell ⟨g, 2, none⟩ u2) w.heap.size lo mid v (.slice (some aC) n cC) (.slice (some aV) n cV) l (mat n s.1) (mat n s.2) ∧ Below w.heap.size w (((wr.setCell ⟨g, 0, none⟩ u0).setCell ⟨g, 1, none⟩ u1).setCell ⟨g, 2, none⟩ u2) :=
  ⟨Rk3.set ⟨hlm, h.hR _ hv, h.hC, h.hV⟩ hb u0 u1 u2, below_set (below_set (below_set h.hB hg) hg) hg⟩
theorem cell_stays {wr : World} {p : Addr} {v : Value} {x : Int} {q : Addr} {A : Option Addr} {m c : Nat} (hp : wr.cell? p = some (.int .i64 x)) (hq : wr.cell? q = some (.slice A m c)) : (wr.setCell p v).cell? q = some (.slice A m c) :=
  (World.cell?_setCell_other wr p q v (fun e => by rw [e, hq] at hp; cases hp)).trans hq
end Go.Proofs.Ytdlaaccnaokdnaa.P
