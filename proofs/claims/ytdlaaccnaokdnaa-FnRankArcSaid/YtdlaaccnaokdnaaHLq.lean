/- What a drawing holds while it is made: the reader's state, boxes, a net, rows, tables; what each event leaves of it. -/
import Derived.Test.YtdlaaccnaokdnaaHMake
import Derived.Test.YtdlaaccnaokdnaaPFSpecL30RdPick
set_option linter.unusedVariables false
set_option linter.unusedSimpArgs false
namespace Go.Proofs.Ytdlaaccnaokdnaa.P
open Go.RowKit Go.Proofs.Ytdlaaccnaokdnaa.M Go.Proofs.YtdlaaccnaokdnaaV.PrintWords Go.Proofs.YtdlaaccnaokdnaaV.PrintLast Go.Proofs.YtdlaaccnaokdnaaV.PrintMore
structure LQ (w0 w : World) (g : Nat) (s : List Int) (pos : Int) (bs : List (Nat × Array Value × TypeId)) (ns : List (Value × List S61)) (rs : List ((Nat → Prop) × Value × List Int)) (ts : List ((Nat → Prop) × Value × List (List Int))) (W : World) : Prop where
  hI : IsS116 w0 W g s pos
  hB : Below w0.heap.size w0 W
  hK : KeepBut w W g none
  hg : g < w.heap.size
  h0 : w0.heap.size ≤ w.heap.size
  hX : ∀ p ∈ bs, (p.2.2 = 35 ∨ p.2.2 = 37) ∧ w.heap.size ≤ p.1 ∧ W.heap[p.1]? = some (.cells p.2.1 p.2.2 (0, 0))
  hD : (bs.map (·.1)).Nodup
  hN : ∀ p ∈ ns, Kd.R k61 61 W w.heap.size (fun _ => True) p.1 p.2
  hR : ∀ p ∈ rs, Kd.R (Kd.int .i64) 3 W w.heap.size p.1 p.2.1 p.2.2
  hS : ∀ p ∈ ts, Kd.S (Kd.slice 3 (Kd.int .i64)) 25 W w.heap.size p.1 p.2.1 p.2.2
section
variable {w0 w W W1 : World} {g : Nat} {s : List Int} {pos pos' : Int} {bs : List (Nat × Array Value × TypeId)} {ns : List (Value × List S61)} {rs : List ((Nat → Prop) × Value × List Int)} {ts : List ((Nat → Prop) × Value × List (List Int))}
theorem LQ.start (hI : IsS116 w0 w g s pos) (hB : Below w0.heap.size w0 w) : LQ w0 w g s pos [] [] [] [] w := ⟨hI, hB, KeepBut.refl w g none, IsS116.lt hI, hB.size, by simp, by simp, by simp, by simp, by simp⟩
theorem LQ.size (h : LQ w0 w g s pos bs ns rs ts W) : w.heap.size ≤ W.heap.size := h.hK.1
theorem LQ.below (h : LQ w0 w g s pos bs ns rs ts W) (hb : Below W.heap.size W W1) : LQ w0 w g s pos bs ns rs ts W1 :=
  ⟨h.hI.below hb, below_step h.hB hb, h.hK.trans (KeepBut.of_below hb g none) (.inl rfl), h.hg, h.h0, fun p hp => ⟨(h.hX p hp).1, (h.hX p hp).2.1, blk_below (h.hX p hp).2.2 hb⟩, h.hD, fun p hp => Kd.R_below (h.hN p hp) hb, fun p hp => Kd.R_below (h.hR p hp) hb, fun p hp => Kd.S_below (h.hS p hp) hb⟩
theorem LQ.drew (h : LQ w0 w g s pos bs ns rs ts W) : LQ w0 w g s pos bs ns rs ts W.drew := h.below (below_drew1 (Below.refl _ _))
theorem LQ.drewN (h : LQ w0 w g s pos bs ns rs ts W) (m : Nat) : LQ w0 w g s pos bs ns rs ts (W.drewN m) := h.below (pw_below_drewN (Below.refl _ _) m)
theorem LQ.call (h : LQ w0 w g s pos bs ns rs ts W) (hi : IsS116 w0 W1 g s pos') (hb : Below w0.heap.size w0 W1) (hk : KeepBut W W1 g none) : LQ w0 w g s pos' bs ns rs ts W1 :=
  have hk2 : Kept W W1 (fun k => k = g) := ⟨hk.1, fun i hi hne => hk.2 i hi hne (by simp)⟩
  have hg := h.hg
  ⟨hi, hb, h.hK.trans hk (.inl rfl), h.hg, h.h0, fun p hp => ⟨(h.hX p hp).1, (h.hX p hp).2.1, KeepBut.blk hk (h.hX p hp).2.2 (by have := (h.hX p hp).2.1; omega) (by simp)⟩, h.hD,
    fun p hp => Kd.R_mono (Kd.R_kept (Kd.R_bound (h.hN p hp)) hk2 (fun k h1 h2 => by have := h1.2.1; omega)) (fun _ _ => trivial),
    fun p hp => Kd.R_mono (Kd.R_kept (Kd.R_bound (h.hR p hp)) hk2 (fun k h1 h2 => by have := h1.2.1; omega)) (fun _ h1 => h1.1),
    fun p hp => Kd.S_mono (Kd.S_kept (Kd.S_bound (h.hS p hp)) hk2 (fun k h1 h2 => by have := h1.2.1; omega)) (fun _ h1 => h1.1)⟩
theorem LQ.newbox (h : LQ w0 w g s pos bs ns rs ts W) {gb : Nat} {cs : Array Value} {t : TypeId} (hgb : gb = W.heap.size) (hbox : W1.heap[gb]? = some (.cells cs t (0, 0))) (hb : Below W.heap.size W W1) (ht : t = 35 ∨ t = 37) : LQ w0 w g s pos ((gb, cs, t) :: bs) ns rs ts W1 := by
  have h1 := h.below hb
  refine ⟨h1.hI, h1.hB, h1.hK, h1.hg, h1.h0, fun p hp => ?_, ?_, h1.hN, h1.hR, h1.hS⟩
  · rcases List.mem_cons.1 hp with rfl | hp
    · exact ⟨ht, by rw [show (gb, cs, t).1 = gb from rfl, hgb]; exact h.size, hbox⟩
    · exact h1.hX p hp
  · refine List.nodup_cons.2 ⟨fun hm => ?_, h1.hD⟩
    obtain ⟨p, hp, e⟩ := List.mem_map.1 hm
    have h2 := blk_lt (h.hX p hp).2.2
    replace e : p.1 = gb := e
    omega
theorem LQ.addN (h : LQ w0 w g s pos bs ns rs ts W) {base : Nat} {v : Value} {l : List S61} (hn : Kd.R k61 61 W base (fun _ => True) v l) (hb : w.heap.size ≤ base) : LQ w0 w g s pos bs ((v, l) :: ns) rs ts W :=
  ⟨h.hI, h.hB, h.hK, h.hg, h.h0, h.hX, h.hD, fun p hp => by
    rcases List.mem_cons.1 hp with rfl | hp
    · exact Kd.R_lower hn hb
    · exact h.hN p hp, h.hR, h.hS⟩
theorem LQ.addR (h : LQ w0 w g s pos bs ns rs ts W) {base : Nat} {ok : Nat → Prop} {v : Value} {l : List Int} (hn : Kd.R (Kd.int .i64) 3 W base ok v l) (hb : w.heap.size ≤ base) : LQ w0 w g s pos bs ns ((ok, v, l) :: rs) ts W :=
  ⟨h.hI, h.hB, h.hK, h.hg, h.h0, h.hX, h.hD, h.hN, fun p hp => by
    rcases List.mem_cons.1 hp with rfl | hp
    · exact Kd.R_lower hn hb
    · exact h.hR p hp, h.hS⟩
theorem LQ.addS (h : LQ w0 w g s pos bs ns rs ts W) {base : Nat} {ok : Nat → Prop} {v : Value} {l : List (List Int)} (hn : Kd.S (Kd.slice 3 (Kd.int .i64)) 25 W base ok v l) (hb : w.heap.size ≤ base) : LQ w0 w g s pos bs ns rs ((ok, v, l) :: ts) W :=
  ⟨h.hI, h.hB, h.hK, h.hg, h.h0, h.hX, h.hD, h.hN, h.hR, fun p hp => by
    rcases List.mem_cons.1 hp with rfl | hp
    · exact Kd.S_lower hn hb
    · exact h.hS p hp⟩
theorem LQ.x0 {b0 : Nat × Array Value × TypeId} (h : LQ w0 w g s pos (b0 :: bs) ns rs ts W) : Aside0 (W.heap[b0.1]? = some (.cells b0.2.1 b0.2.2 (0, 0))) := ⟨(h.hX b0 (by simp)).2.2⟩
theorem LQ.x1 {b0 b1 : Nat × Array Value × TypeId} (h : LQ w0 w g s pos (b0 :: b1 :: bs) ns rs ts W) : Aside0 (W.heap[b1.1]? = some (.cells b1.2.1 b1.2.2 (0, 0))) := ⟨(h.hX b1 (by simp)).2.2⟩
theorem LQ.x2 {b0 b1 b2 : Nat × Array Value × TypeId} (h : LQ w0 w g s pos (b0 :: b1 :: b2 :: bs) ns rs ts W) : Aside0 (W.heap[b2.1]? = some (.cells b2.2.1 b2.2.2 (0, 0))) := ⟨(h.hX b2 (by simp)).2.2⟩
theorem LQ.x3 {b0 b1 b2 b3 : Nat × Array Value × TypeId} (h : LQ w0 w g s pos (b0 :: b1 :: b2 :: b3 :: bs) ns rs ts W) : Aside0 (W.heap[b3.1]? = some (.cells b3.2.1 b3.2.2 (0, 0))) := ⟨(h.hX b3 (by simp)).2.2⟩
/-- less, or in another order -/
theorem LQ.sub (h : LQ w0 w g s pos bs ns rs ts W) {bs' : List (Nat × Array Value × TypeId)} {ns' : List (Value × List S61)} {rs' : List ((Nat → Prop) × Value × List Int)} {ts' : List ((Nat → Prop) × Value × List (List Int))} (h1 : ∀ p ∈ bs', p ∈ bs) (h2 : (bs'.map (·.1)).Nodup) (h3 : ∀ p ∈ ns', p ∈ ns) (h4 : ∀ p ∈ rs', p ∈ rs) (h5 : ∀ p ∈ ts', p ∈ ts) : LQ w0 w g s pos bs' ns' rs' ts' W :=
  ⟨h.hI, h.hB, h.hK, h.hg, h.h0, fun p hp => h.hX p (h1 p hp), h2, fun p hp => h.hN p (h3 p hp), fun p hp => h.hR p (h4 p hp), fun p hp => h.hS p (h5 p hp)⟩
theorem LQ.rs1 {r : (Nat → Prop) × Value × List Int} (h : LQ w0 w g s pos bs ns (r :: rs) ts W) : LQ w0 w g s pos bs ns [r] ts W := h.sub (fun p hp => hp) h.hD (fun p hp => hp) (fun p hp => by rw [List.mem_singleton.1 hp]; exact List.mem_cons_self ..) (fun p hp => hp)
theorem LQ.swapS {r t : (Nat → Prop) × Value × List (List Int)} (h : LQ w0 w g s pos bs ns rs [r, t] W) : LQ w0 w g s pos bs ns rs [t, r] W := h.sub (fun p hp => hp) h.hD (fun p hp => hp) (fun p hp => hp) (fun p hp => by simp at hp ⊢; exact hp.symm)
theorem LQ.rot {b0 b1 b2 b3 : Nat × Array Value × TypeId} (h : LQ w0 w g s pos [b0, b1, b2, b3] ns rs ts W) : LQ w0 w g s pos [b3, b2, b0, b1] ns rs ts W :=
  h.sub (fun p hp => by simp at hp ⊢; rcases hp with h | h | h | h <;> simp [h]) (by have := h.hD; simp [List.nodup_cons] at this ⊢; omega) (fun p hp => hp) (fun p hp => hp) (fun p hp => hp)
theorem LQ.swapB {b0 b1 b2 b3 : Nat × Array Value × TypeId} (h : LQ w0 w g s pos [b0, b1, b2, b3] ns rs ts W) : LQ w0 w g s pos [b1, b0, b2, b3] ns rs ts W :=
  h.sub (fun p hp => by simp at hp ⊢; rcases hp with h | h | h | h <;> simp [h]) (by have := h.hD; simp [List.nodup_cons] at this ⊢; omega) (fun p hp => hp) (fun p hp => hp) (fun p hp => hp)
/-- the tables lie below what comes -/
theorem LQ.bound {okC okV : Nat → Prop} {vC vV : Value} {C V : List (List Int)} {m : Nat} (h : LQ w0 w g s pos bs ns rs [(okC, vC, C), (okV, vV, V)] W) (hm : W.heap.size = m) : LQ w0 w g s pos bs ns rs [(fun k => okC k ∧ k < m, vC, C), (fun k => okV k ∧ k < m, vV, V)] W :=
  ⟨h.hI, h.hB, h.hK, h.hg, h.h0, h.hX, h.hD, h.hN, h.hR, fun p hp => by
    rcases List.mem_cons.1 hp with rfl | hp
    · exact Kd.S_mono (Kd.S_bound (h.hS (okC, vC, C) (by simp))) (fun k hk => ⟨hk.1, by have := hk.2.2.1; omega⟩)
    · obtain rfl := List.mem_singleton.1 hp
      exact Kd.S_mono (Kd.S_bound (h.hS (okV, vV, V) (by simp))) (fun k hk => ⟨hk.1, by have := hk.2.2.1; omega⟩)⟩
/-- a cell of the first box is set -/
theorem LQ.setbox {gb j : Nat} {cs cs' : Array Value} {t : TypeId} {u : Value} (h : LQ w0 w g s pos ((gb, cs, t) :: bs) ns rs ts W) (e : cs.setIfInBounds j u = cs') : LQ w0 w g s pos ((gb, cs', t) :: bs) ns rs ts (W.setCell ⟨gb, j, none⟩ u) := by
  obtain ⟨ht, hgb, hbox⟩ := h.hX (gb, cs, t) (by simp)
  replace ht : t = 35 ∨ t = 37 := ht
  replace hgb : w.heap.size ≤ gb := hgb
  replace hbox : W.heap[gb]? = some (.cells cs t (0, 0)) := hbox
  have hg := h.hg; have h0 := h.h0
  have hd := List.nodup_cons.1 h.hD
  refine ⟨IsS116.far h.hI (by show g ≠ gb; omega) u, below_set h.hB (by omega), keep_far h.hK (show w.heap.size ≤ gb from hgb) u, hg, h0, fun p hp => ?_, h.hD, fun p hp => ?_, fun p hp => ?_, fun p hp => ?_⟩
  · rcases List.mem_cons.1 hp with rfl | hp
    · exact ⟨ht, hgb, blk_put hbox j u e⟩
    · have h1 := h.hX p (by simp [hp])
      exact ⟨h1.1, h1.2.1, blk_far h1.2.2 (fun e => hd.1 (List.mem_map.2 ⟨p, hp, e⟩)) u⟩
  · exact Kd.R_mono (Kd.R_far (p := ⟨gb, j, none⟩) (Kd.R_types (h.hN p hp) hbox (by rcases ht with rfl | rfl <;> decide)) (fun _ hk => hk.2) u) (fun _ hk => hk.1)
  · exact Kd.R_mono (Kd.R_far (p := ⟨gb, j, none⟩) (Kd.R_types (h.hR p hp) hbox (by rcases ht with rfl | rfl <;> decide)) (fun _ hk => hk.2) u) (fun _ hk => hk.1)
  · exact Kd.S_mono (Kd.S_far (p := ⟨gb, j, none⟩) (Kd.S_types (h.hS p hp) hbox (by rcases ht with rfl | rfl <;> decide)) (fun _ hk => hk.2) u) (fun _ hk => hk.1)
/-- a number is stored into a row of the first table -/
theorem LQ.put {okC okV okO : Nat → Prop} {aC : Addr} {nC cC : Nat} {C V : List (List Int)} {vV vO : Value} {o : List Int} (h : LQ w0 w g s pos bs ns [(okO, vO, o)] [(okC, .slice (some aC) nC cC, C), (okV, vV, V)] W) (dV : ∀ k, okC k → ¬ okV k) (dO : ∀ k, okC k → ¬ okO k) {i j : Int} (hi0 : 0 ≤ i) (hi1 : i < C.length) (hj0 : 0 ≤ j) (hj1 : j < (rd_L5 C i).length) {A' : Option Addr} {m c' : Nat} (hx : W.cell? (aC.add i.toNat) = some (.slice A' m c')) :
    ∃ g', A' = some ⟨g', 0, none⟩ ∧ g' ≠ g ∧ W.cell? ⟨g', j.toNat, none⟩ = some (.int .i64 (rd (rd_L5 C i) j)) ∧ W.frozen? ⟨g', j.toNat, none⟩ = false ∧ ∀ x, LQ w0 w g s pos bs ns [(okO, vO, o)] [(okC, .slice (some aC) nC cC, C.set i.toNat ((rd_L5 C i).set j.toNat x)), (okV, vV, V)] (W.setCell ⟨g', j.toNat, none⟩ (.int .i64 x)) := by
  have hC := h.hS (okC, .slice (some aC) nC cC, C) (by simp)
  have hV := h.hS (okV, vV, V) (by simp)
  have hO := h.hR (okO, vO, o) (by simp)
  obtain ⟨g', eg, gb, gok, gl, ⟨cells, hcl⟩, h0, hf, _⟩ := S_put hC hi0 hi1 hj0 hj1 hx 0
  subst eg
  have hg := h.hg; have hh := h.h0
  refine ⟨g', rfl, by omega, h0, hf, fun x => ?_⟩
  obtain ⟨g2, eg, _, _, _, _, _, _, hP⟩ := S_put hC hi0 hi1 hj0 hj1 hx x
  cases eg
  refine ⟨IsS116.far h.hI (by show g ≠ g'; omega) _, below_set h.hB (by omega), keep_far h.hK (show w.heap.size ≤ g' from gb) _, hg, hh, fun p hp => ?_, h.hD, fun p hp => ?_, fun p hp => ?_, fun p hp => ?_⟩
  · have h1 := h.hX p hp
    refine ⟨h1.1, h1.2.1, box_far h1.2.2 hcl ?_ _⟩
    rcases h1.1 with e | e <;> rw [e] <;> decide
  · exact Kd.R_mono (Kd.R_far (p := ⟨g', j.toNat, none⟩) (Kd.R_types (h.hN p hp) hcl (by decide)) (fun _ hk => hk.2) _) (fun _ hk => hk.1)
  · obtain rfl := List.mem_singleton.1 hp
    exact Kd.R_far hO (p := ⟨g', j.toNat, none⟩) (fun k hk e => dO g' gok (by have e' : k = g' := e; exact e' ▸ hk)) _
  · rcases List.mem_cons.1 hp with rfl | hp
    · exact hP
    · obtain rfl := List.mem_singleton.1 hp
      exact Kd.S_far hV (p := ⟨g', j.toNat, none⟩) (fun k hk e => dV g' gok (by have e' : k = g' := e; exact e' ▸ hk)) _
/-- the order grows -/
theorem LQ.grown {okC okV okO okO' : Nat → Prop} {vC vV vO v1 : Value} {C V : List (List Int)} {o o' : List Int} (h : LQ w0 w g s pos bs ns [(okO, vO, o)] [(okC, vC, C), (okV, vV, V)] W) (dC : ∀ k, okC k → ¬ okO k) (dV : ∀ k, okV k → ¬ okO k) (hb : Below w.heap.size W W1) (hg : W.grownBy W1 vO.ownBlock) (ho : Kd.R (Kd.int .i64) 3 W1 w.heap.size okO' v1 o') : LQ w0 w g s pos bs ns [(okO', v1, o')] [(okC, vC, C), (okV, vV, V)] W1 := by
  have hO := h.hR (okO, vO, o) (by simp)
  have hgw := h.hg; have hh := h.h0
  have hk2 : Kept W W1 (fun k => some k = vO.ownBlock) := ⟨hg.size, fun i hi hne => hg.block i hi hne⟩
  have hbk : ∀ k, some k = vO.ownBlock → w.heap.size ≤ k ∧ ∃ cells, W.heap[k]? = some (.cells cells 3 (0, 0)) := fun k e => by
    obtain ⟨h1, h2, h3, q, hq, hc⟩ := (Kd.R_bound hO).1 k e.symm
    have e3 : q = 3 := List.mem_singleton.1 hq
    subst e3
    exact ⟨h2, hc⟩
  have hne : ∀ {k : Nat} {cs : Array Value} {t : TypeId}, W.heap[k]? = some (.cells cs t (0, 0)) → t ≠ 3 → ¬ some k = vO.ownBlock := fun {k cs t} hc ht e => by
    obtain ⟨_, cs', h2⟩ := hbk k e
    rw [hc] at h2
    injection h2 with h2
    injection h2 with h3 h4 h5
    exact ht h4
  refine ⟨IsS116.grown h.hI hg (fun e => by have := (hbk g e).1; omega), below_weaken h.hB h.h0 hb, h.hK.trans (KeepBut.of_grown hg g) (Kd.R_base2 hO), hgw, hh, fun p hp => ?_, h.hD, fun p hp => ?_, fun p hp => ?_, fun p hp => ?_⟩
  · have h1 := h.hX p hp
    refine ⟨h1.1, h1.2.1, (hk2.2 p.1 (blk_lt h1.2.2) (hne h1.2.2 ?_)).trans h1.2.2⟩
    rcases h1.1 with e | e <;> rw [e] <;> decide
  · refine Kd.R_mono (Kd.R_kept (Kd.R_bound (h.hN p hp)) hk2 (fun k hk => ?_)) (fun _ _ => trivial)
    obtain ⟨_, _, _, q, hq, cs, hc⟩ := hk
    exact hne hc ((by decide : ∀ q, q ∈ 61 :: k61.E → q ≠ 3) q hq)
  · obtain rfl := List.mem_singleton.1 hp
    exact ho
  · rcases List.mem_cons.1 hp with rfl | hp
    · exact Kd.S_kept (h.hS (okC, vC, C) (by simp)) hk2 (fun k hk e => dC k hk (hO.1 k e.symm))
    · obtain rfl := List.mem_singleton.1 hp
      exact Kd.S_kept (h.hS (okV, vV, V) (by simp)) hk2 (fun k hk e => dV k hk (hO.1 k e.symm))
/-- what is told at the end -/
theorem LQ.ends {okO okC okV : Nat → Prop} {vN vO vC vV : Value} {l : List S61} {o : List Int} {C V : List (List Int)} (h : LQ w0 w g s pos bs [(vN, l)] [(okO, vO, o)] [(okC, vC, C), (okV, vV, V)] W) (d1 : ∀ k, okC k → ¬ okO k) (d2 : ∀ k, okV k → ¬ okO k) (d3 : ∀ k, okC k → ¬ okV k) :
    Kd.R k61 61 W w.heap.size (fun _ => True) vN l ∧ Kd.R (Kd.int .i64) 3 W w.heap.size (fun _ => True) vO o ∧ Kd.S (Kd.slice 3 (Kd.int .i64)) 25 W w.heap.size (fun k_ => some k_ ≠ (vO : Value).ownBlock ∧ some k_ ≠ (vV : Value).ownBlock) vC C ∧ Kd.S (Kd.slice 3 (Kd.int .i64)) 25 W w.heap.size (fun k_ => some k_ ≠ (vO : Value).ownBlock ∧ some k_ ≠ (vC : Value).ownBlock) vV V ∧ IsS116 w0 W g s pos ∧ Below w0.heap.size w0 W ∧ KeepBut w W g none := by
  have hO := h.hR (okO, vO, o) (by simp)
  have hC := h.hS (okC, vC, C) (by simp)
  have hV := h.hS (okV, vV, V) (by simp)
  exact ⟨h.hN (vN, l) (by simp), Kd.R_mono hO (fun _ _ => trivial), Kd.S_mono hC (fun k hk => ⟨fun e => d1 k hk (hO.1 k e.symm), fun e => d3 k hk ((Kd.S_R hV).1 k e.symm)⟩), Kd.S_mono hV (fun k hk => ⟨fun e => d2 k hk (hO.1 k e.symm), fun e => d3 k ((Kd.S_R hC).1 k e.symm) hk⟩), h.hI, h.hB, h.hK⟩
end
end Go.Proofs.Ytdlaaccnaokdnaa.P
