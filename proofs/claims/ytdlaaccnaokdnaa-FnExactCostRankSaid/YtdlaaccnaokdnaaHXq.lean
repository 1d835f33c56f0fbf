/- What an exact law holds while it runs: boxes, nets, rows, tables, each in a window of blocks of its own; what each event leaves of them. Contract: laws.markRank. -/
import Derived.Test.YtdlaaccnaokdnaaHMarkSS
import Derived.Test.YtdlaaccnaokdnaaHRankS
set_option linter.unusedVariables false
set_option linter.unusedSimpArgs false
namespace Go.Proofs.Ytdlaaccnaokdnaa.P
open Go.RowKit Go.Proofs.Ytdlaaccnaokdnaa.M Go.Proofs.YtdlaaccnaokdnaaV.PrintWords Go.Proofs.YtdlaaccnaokdnaaV.PrintLast Go.Proofs.YtdlaaccnaokdnaaV.PrintMore
inductive Ob where
  | box (g : Nat) (cs : Array Value) (t : TypeId)
  | net (lo hi : Nat) (v : Value) (l : List S61)
  | row (lo hi : Nat) (v : Value) (l : List Int)
  | tab (lo hi : Nat) (v : Value) (l : List (List Int))
  | any (lo hi : Nat) (P : World → Prop)
def Ob.lo : Ob → Nat
  | .box g _ _ => g
  | .net lo _ _ _ => lo
  | .row lo _ _ _ => lo
  | .tab lo _ _ _ => lo
  | .any lo _ _ => lo
def Ob.hi : Ob → Nat
  | .box g _ _ => g + 1
  | .net _ hi _ _ => hi
  | .row _ hi _ _ => hi
  | .tab _ hi _ _ => hi
  | .any _ hi _ => hi
def Ob.ok (base : Nat) (W : World) : Ob → Prop
  | .box g cs t => W.heap[g]? = some (.cells cs t (0, 0))
  | .net lo hi v l => Kd.R k61 61 W base (fun k => lo ≤ k ∧ k < hi) v l
  | .row lo hi v l => Kd.R (Kd.int .i64) 3 W base (fun k => lo ≤ k ∧ k < hi) v l
  | .tab lo hi v l => Kd.S kSS 25 W base (fun k => lo ≤ k ∧ k < hi) v l
  | .any lo hi P => P W ∧ ∀ W0 W1, P W0 → (∀ k, lo ≤ k → k < hi → k < W0.heap.size → W1.heap[k]? = W0.heap[k]?) → P W1
theorem Ob.ok_step {o : Ob} {base : Nat} {W W1 : World} (h : o.ok base W) (hm : ∀ k, o.lo ≤ k → k < o.hi → k < W.heap.size → W1.heap[k]? = W.heap[k]?) : o.ok base W1 := by
  cases o with
  | box g cs t => exact (hm g (Nat.le_refl _) (Nat.lt_succ_self _) (blk_lt h)).trans h
  | net lo hi v l => exact Kd.R_step h (fun k hk hlt => hm k hk.1 hk.2 hlt)
  | row lo hi v l => exact Kd.R_step h (fun k hk hlt => hm k hk.1 hk.2 hlt)
  | tab lo hi v l => exact Kd.S_step h (fun k hk hlt => hm k hk.1 hk.2 hlt)
  | any lo hi P => exact ⟨h.2 W W1 h.1 hm, h.2⟩
def Ob.apart (a b : Ob) : Prop := a.hi ≤ b.lo ∨ b.hi ≤ a.lo
structure XQ (w0 : World) (os : List Ob) (W : World) : Prop where
  hB : Below w0.heap.size w0 W
  hO : ∀ o ∈ os, w0.heap.size ≤ o.lo ∧ o.hi ≤ W.heap.size ∧ o.ok w0.heap.size W
  hP : os.Pairwise Ob.apart
section
variable {w0 W W1 : World} {os : List Ob}
theorem XQ.start (w0 : World) : XQ w0 [] w0 := ⟨Below.refl _ _, by simp, List.Pairwise.nil⟩
theorem XQ.below (h : XQ w0 os W) (hb : Below W.heap.size W W1) : XQ w0 os W1 :=
  ⟨below_step h.hB hb, fun o ho => ⟨(h.hO o ho).1, Nat.le_trans (h.hO o ho).2.1 hb.size, Ob.ok_step (h.hO o ho).2.2 (fun k _ _ hlt => hb.block k hlt)⟩, h.hP⟩
theorem XQ.drewN (h : XQ w0 os W) (m : Nat) : XQ w0 os (W.drewN m) := h.below (pw_below_drewN (Below.refl _ _) m)
theorem XQ.drew (h : XQ w0 os W) : XQ w0 os W.drew := h.below (below_drew1 (Below.refl _ _))
theorem XQ.add {o : Ob} (h : XQ w0 os W) (hb : Below W.heap.size W W1) (h1 : W.heap.size ≤ o.lo) (h2 : o.hi ≤ W1.heap.size) (ho : o.ok w0.heap.size W1) : XQ w0 (o :: os) W1 := by
  have hs := h.hB.size
  refine ⟨below_step h.hB hb, fun p hp => ?_, List.pairwise_cons.2 ⟨fun p hp => .inr (Nat.le_trans (h.hO p hp).2.1 h1), h.hP⟩⟩
  rcases List.mem_cons.1 hp with rfl | hp
  · exact ⟨by omega, h2, ho⟩
  · exact (h.below hb).hO p hp
theorem XQ.tail {o : Ob} (h : XQ w0 (o :: os) W) : XQ w0 os W := ⟨h.hB, fun p hp => h.hO p (List.mem_cons_of_mem _ hp), (List.pairwise_cons.1 h.hP).2⟩
theorem XQ.rot {o : Ob} (h : XQ w0 (o :: os) W) : XQ w0 (os ++ [o]) W := by
  obtain ⟨h1, h2⟩ := List.pairwise_cons.1 h.hP
  refine ⟨h.hB, fun p hp => h.hO p (by simp at hp ⊢; exact hp.symm), List.pairwise_append.2 ⟨h2, List.pairwise_singleton _ _, fun a ha b hb => ?_⟩⟩
  obtain rfl := List.mem_singleton.1 hb
  exact (h1 a ha).symm
theorem XQ.perm {os' : List Ob} (h : XQ w0 os W) (hp : os.Perm os') : XQ w0 os' W := ⟨h.hB, fun o ho => h.hO o (hp.mem_iff.2 ho), (hp.pairwise_iff (fun h => Or.symm h)).1 h.hP⟩
theorem XQ.front (pre : List Ob) {post : List Ob} {o : Ob} (h : XQ w0 (pre ++ o :: post) W) : XQ w0 (o :: (pre ++ post)) W := h.perm List.perm_middle
theorem XQ.hide (h : XQ w0 os W) : ∃ os', os' = os ∧ XQ w0 os' W := ⟨os, rfl, h⟩
theorem XQ.at {o : Ob} (h : XQ w0 os W) (hm : o ∈ os) : o.ok w0.heap.size W := (h.hO o hm).2.2
/-- what lies in one window is written over -/
theorem XQ.mark (pre : List Ob) {post : List Ob} {o o' : Ob} (h : XQ w0 (pre ++ o :: post) W) (e1 : o'.lo = o.lo) (e2 : o'.hi = o.hi) (hb : Below w0.heap.size w0 W1) (hk : Kept W W1 (fun k => o.lo ≤ k ∧ k < o.hi)) (ho : o'.ok w0.heap.size W1) : XQ w0 (pre ++ o' :: post) W1 := by
  obtain ⟨p1, p2, p3⟩ := List.pairwise_append.1 h.hP
  obtain ⟨q1, q2⟩ := List.pairwise_cons.1 p2
  have hs := hk.1
  have keep : ∀ p ∈ pre ++ o :: post, p.apart o → w0.heap.size ≤ p.lo ∧ p.hi ≤ W1.heap.size ∧ p.ok w0.heap.size W1 := fun p hp ha => by
    obtain ⟨g1, g2, g3⟩ := h.hO p hp
    refine ⟨g1, by omega, Ob.ok_step g3 (fun k k1 k2 hlt => hk.2 k hlt (fun hh => ?_))⟩
    unfold Ob.apart at ha
    omega
  have ho0 := h.hO o (by simp)
  refine ⟨hb, fun p hp => ?_, List.pairwise_append.2 ⟨p1, List.pairwise_cons.2 ⟨fun b hb => ?_, q2⟩, fun a ha b hb => ?_⟩⟩
  · rcases List.mem_append.1 hp with hp | hp
    · exact keep p (by simp [hp]) (p3 p hp o (by simp))
    · rcases List.mem_cons.1 hp with rfl | hp
      · exact ⟨by rw [e1]; exact ho0.1, by rw [e2]; omega, ho⟩
      · exact keep p (by simp [hp]) (q1 p hp).symm
  · have := q1 b hb
    unfold Ob.apart at this ⊢
    rwa [e1, e2]
  · rcases List.mem_cons.1 hb with rfl | hb
    · have := p3 a ha o (by simp)
      unfold Ob.apart at this ⊢
      rwa [e1, e2]
    · exact p3 a ha b (by simp [hb])
/-- what lies in one window is written over, and is no longer of interest -/
theorem XQ.markA (pre : List Ob) {post : List Ob} {o : Ob} (h : XQ w0 (pre ++ o :: post) W) (hb : Below w0.heap.size w0 W1) (hk : Kept W W1 (fun k => o.lo ≤ k ∧ k < o.hi)) : XQ w0 (pre ++ post) W1 := by
  obtain ⟨p1, p2, p3⟩ := List.pairwise_append.1 h.hP
  obtain ⟨q1, q2⟩ := List.pairwise_cons.1 p2
  have hs := hk.1
  refine ⟨hb, fun p hp => ?_, List.pairwise_append.2 ⟨p1, q2, fun a ha b hb => p3 a ha b (List.mem_cons_of_mem _ hb)⟩⟩
  have ha : p.apart o := by
    rcases List.mem_append.1 hp with hp | hp
    · exact p3 p hp o (List.mem_cons_self ..)
    · exact (q1 p hp).symm
  obtain ⟨g1, g2, g3⟩ := h.hO p (by rcases List.mem_append.1 hp with hp | hp <;> simp [hp])
  refine ⟨g1, by omega, Ob.ok_step g3 (fun k k1 k2 hlt => hk.2 k hlt (fun hh => ?_))⟩
  unfold Ob.apart at ha
  omega
/-- a row is written over -/
theorem XQ.markR (pre : List Ob) {post : List Ob} {lo hi : Nat} {v : Value} {l l' : List Int} {ok : Nat → Prop} (h : XQ w0 (pre ++ .row lo hi v l :: post) W) (hb : Below w0.heap.size w0 W1) (hk : Kept W W1 (fun k => lo ≤ k ∧ k < hi)) (hy : Kd.R (Kd.int .i64) 3 W1 w0.heap.size ok v l') : XQ w0 (pre ++ .row lo hi v l' :: post) W1 :=
  have h0 : Kd.R (Kd.int .i64) 3 W w0.heap.size (fun k => lo ≤ k ∧ k < hi) v l := (h.hO (.row lo hi v l) (by simp)).2.2
  XQ.mark pre (o := .row lo hi v l) (o' := .row lo hi v l') h rfl rfl hb hk (Kd.R_reok rfl hy (fun k hk2 => h0.1 k hk2))
theorem XQ.markD {o : Ob} (h : XQ w0 (o :: os) W) (hb : Below w0.heap.size w0 W1) (hk : Kept W W1 (fun k => o.lo ≤ k ∧ k < o.hi)) : XQ w0 os W1 := by
  obtain ⟨q1, q2⟩ := List.pairwise_cons.1 h.hP
  have hs := hk.1
  refine ⟨hb, fun p hp => ?_, q2⟩
  obtain ⟨g1, g2, g3⟩ := h.hO p (List.mem_cons_of_mem _ hp)
  refine ⟨g1, by omega, Ob.ok_step g3 (fun k k1 k2 hlt => hk.2 k hlt (fun hh => ?_))⟩
  have := q1 p hp
  unfold Ob.apart at this
  omega
/-- a rank's three parts come in -/
theorem XQ.add3L {lo mid : Nat} {v0 v1 v2 : Value} {r1 : List Int} {r2 r3 : List (List Int)} (h : XQ w0 os W) (hb : Below W.heap.size W W1) (h3 : Rk3 W1 W.heap.size lo mid v0 v1 v2 r1 r2 r3) : ∃ a b, a ≤ b ∧ XQ w0 (.row W.heap.size a v0 r1 :: .tab a b v1 r2 :: .tab b W1.heap.size v2 r3 :: os) W1 := by
  obtain ⟨hlm, h0, h1, h2⟩ := h3
  have hs := hb.size
  have hs0 := h.hB.size
  refine ⟨Nat.max W.heap.size (Nat.min lo W1.heap.size), Nat.max W.heap.size (Nat.min mid W1.heap.size), Nat.max_le.2 ⟨Nat.le_max_left _ _, Nat.le_trans (Nat.le_min.2 ⟨Nat.le_trans (Nat.min_le_left _ _) hlm, Nat.min_le_right _ _⟩) (Nat.le_max_right _ _)⟩, ?_⟩
  have e1 : W.heap.size ≤ Nat.max W.heap.size (Nat.min lo W1.heap.size) := Nat.le_max_left _ _
  have e2 : Nat.max W.heap.size (Nat.min lo W1.heap.size) ≤ W1.heap.size := Nat.max_le.2 ⟨hs, Nat.min_le_right _ _⟩
  have e3 : Nat.max W.heap.size (Nat.min lo W1.heap.size) ≤ Nat.max W.heap.size (Nat.min mid W1.heap.size) := Nat.max_le.2 ⟨Nat.le_max_left _ _, Nat.le_trans (Nat.le_min.2 ⟨Nat.le_trans (Nat.min_le_left _ _) hlm, Nat.min_le_right _ _⟩) (Nat.le_max_right _ _)⟩
  have e4 : Nat.max W.heap.size (Nat.min mid W1.heap.size) ≤ W1.heap.size := Nat.max_le.2 ⟨hs, Nat.min_le_right _ _⟩
  have e5 : ∀ k, W.heap.size ≤ k → lo ≤ k → Nat.max W.heap.size (Nat.min lo W1.heap.size) ≤ k := fun k k1 k2 => Nat.max_le.2 ⟨k1, Nat.le_trans (Nat.min_le_left _ _) k2⟩
  have e6 : ∀ k, W.heap.size ≤ k → mid ≤ k → Nat.max W.heap.size (Nat.min mid W1.heap.size) ≤ k := fun k k1 k2 => Nat.max_le.2 ⟨k1, Nat.le_trans (Nat.min_le_left _ _) k2⟩
  have e7 : ∀ k, k < lo → k < W1.heap.size → k < Nat.max W.heap.size (Nat.min lo W1.heap.size) := fun k k1 k2 => Nat.lt_of_lt_of_le (Nat.lt_min.2 ⟨k1, k2⟩) (Nat.le_max_right _ _)
  have e8 : ∀ k, k < mid → k < W1.heap.size → k < Nat.max W.heap.size (Nat.min mid W1.heap.size) := fun k k1 k2 => Nat.lt_of_lt_of_le (Nat.lt_min.2 ⟨k1, k2⟩) (Nat.le_max_right _ _)
  generalize Nat.max W.heap.size (Nat.min lo W1.heap.size) = a at e1 e2 e3 e5 e7 ⊢
  generalize Nat.max W.heap.size (Nat.min mid W1.heap.size) = b at e3 e4 e6 e8 ⊢
  have h0' : Kd.R (Kd.int .i64) 3 W1 w0.heap.size (fun k => W.heap.size ≤ k ∧ k < a) v0 r1 := Kd.R_lower (Kd.R_mono (Kd.R_bound h0) (fun k hk => ⟨hk.2.1, e7 k hk.1 hk.2.2.1⟩)) hs0
  have h1' : Kd.S kSS 25 W1 w0.heap.size (fun k => a ≤ k ∧ k < b) v1 r2 := Kd.S_lower (Kd.S_mono (Kd.S_bound h1) (fun k hk => ⟨e5 k hk.2.1 hk.1.1, e8 k hk.1.2 hk.2.2.1⟩)) hs0
  have h2' : Kd.S kSS 25 W1 w0.heap.size (fun k => b ≤ k ∧ k < W1.heap.size) v2 r3 := Kd.S_lower (Kd.S_mono (Kd.S_bound h2) (fun k hk => ⟨e6 k hk.2.1 hk.1, hk.2.2.1⟩)) hs0
  have hold := h.below hb
  refine ⟨hold.hB, fun p hp => ?_, ?_⟩
  · rcases List.mem_cons.1 hp with rfl | hp
    · exact ⟨hs0, e2, h0'⟩
    rcases List.mem_cons.1 hp with rfl | hp
    · exact ⟨Nat.le_trans hs0 e1, e4, h1'⟩
    rcases List.mem_cons.1 hp with rfl | hp
    · exact ⟨Nat.le_trans hs0 (Nat.le_trans e1 e3), Nat.le_refl _, h2'⟩
    · exact hold.hO p hp
  · refine List.pairwise_cons.2 ⟨fun p hp => ?_, List.pairwise_cons.2 ⟨fun p hp => ?_, List.pairwise_cons.2 ⟨fun p hp => .inr (Nat.le_trans (h.hO p hp).2.1 (Nat.le_trans e1 e3)), h.hP⟩⟩⟩
    · rcases List.mem_cons.1 hp with rfl | hp
      · exact .inl (Nat.le_refl _)
      rcases List.mem_cons.1 hp with rfl | hp
      · exact .inl e3
      · exact .inr (h.hO p hp).2.1
    · rcases List.mem_cons.1 hp with rfl | hp
      · exact .inl (Nat.le_refl _)
      · exact .inr (Nat.le_trans (h.hO p hp).2.1 e1)
theorem XQ.add3 {lo mid : Nat} {v0 v1 v2 : Value} {r1 : List Int} {r2 r3 : List (List Int)} (h : XQ w0 os W) (hb : Below W.heap.size W W1) (h3 : Rk3 W1 W.heap.size lo mid v0 v1 v2 r1 r2 r3) : ∃ a b, XQ w0 (.row W.heap.size a v0 r1 :: .tab a b v1 r2 :: .tab b W1.heap.size v2 r3 :: os) W1 := by
  obtain ⟨a, b, _, hq⟩ := h.add3L hb h3
  exact ⟨a, b, hq⟩
/-- a rank's three parts, of which one knows that they lie in one window -/
def rkP (base lo hi : Nat) (v0 v1 v2 : Value) (r1 : List Int) (r2 r3 : List (List Int)) : World → Prop := fun X => Kd.R (Kd.int .i64) 3 X base (fun k => lo ≤ k ∧ k < hi) v0 r1 ∧ Kd.S kSS 25 X base (fun k => lo ≤ k ∧ k < hi) v1 r2 ∧ Kd.S kSS 25 X base (fun k => lo ≤ k ∧ k < hi) v2 r3
theorem XQ.bx {g : Nat} {cs : Array Value} {t : TypeId} (h : XQ w0 os W) (hm : Ob.box g cs t ∈ os) : Aside0 (W.heap[g]? = some (.cells cs t (0, 0))) := ⟨h.at hm⟩
theorem XQ.nt {lo hi : Nat} {v : Value} {l : List S61} (h : XQ w0 os W) (hm : Ob.net lo hi v l ∈ os) : Kd.R k61 61 W w0.heap.size (fun k => lo ≤ k ∧ k < hi) v l := h.at hm
theorem XQ.rw_ {lo hi : Nat} {v : Value} {l : List Int} (h : XQ w0 os W) (hm : Ob.row lo hi v l ∈ os) : Kd.R (Kd.int .i64) 3 W w0.heap.size (fun k => lo ≤ k ∧ k < hi) v l := h.at hm
theorem XQ.tb {lo hi : Nat} {v : Value} {l : List (List Int)} (h : XQ w0 os W) (hm : Ob.tab lo hi v l ∈ os) : Kd.S kSS 25 W w0.heap.size (fun k => lo ≤ k ∧ k < hi) v l := h.at hm
theorem XQ.rk {base lo hi : Nat} {v0 v1 v2 : Value} {r1 : List Int} {r2 r3 : List (List Int)} (h : XQ w0 os W) (hm : Ob.any lo hi (rkP base lo hi v0 v1 v2 r1 r2 r3) ∈ os) : Kd.R (Kd.int .i64) 3 W base (fun k => lo ≤ k ∧ k < hi) v0 r1 ∧ Kd.S kSS 25 W base (fun k => lo ≤ k ∧ k < hi) v1 r2 ∧ Kd.S kSS 25 W base (fun k => lo ≤ k ∧ k < hi) v2 r3 := (h.at hm).1
theorem XQ.addW {ok0 ok1 ok2 : Nat → Prop} {v0 v1 v2 : Value} {r1 : List Int} {r2 r3 : List (List Int)} (h : XQ w0 os W) (hb : Below W.heap.size W W1) (q0 : Kd.R (Kd.int .i64) 3 W1 W.heap.size ok0 v0 r1) (q1 : Kd.S kSS 25 W1 W.heap.size ok1 v1 r2) (q2 : Kd.S kSS 25 W1 W.heap.size ok2 v2 r3) : XQ w0 (.any W.heap.size W1.heap.size (rkP w0.heap.size W.heap.size W1.heap.size v0 v1 v2 r1 r2 r3) :: os) W1 := by
  have hs0 := h.hB.size
  refine h.add hb (Nat.le_refl _) (Nat.le_refl _) ⟨⟨Kd.R_lower (Kd.R_mono (Kd.R_bound q0) (fun k hk => ⟨hk.2.1, hk.2.2.1⟩)) hs0, Kd.S_lower (Kd.S_mono (Kd.S_bound q1) (fun k hk => ⟨hk.2.1, hk.2.2.1⟩)) hs0, Kd.S_lower (Kd.S_mono (Kd.S_bound q2) (fun k hk => ⟨hk.2.1, hk.2.2.1⟩)) hs0⟩, fun X Y hx hm => ?_⟩
  exact ⟨Kd.R_step hx.1 (fun k hk hlt => hm k hk.1 hk.2 hlt), Kd.S_step hx.2.1 (fun k hk hlt => hm k hk.1 hk.2 hlt), Kd.S_step hx.2.2 (fun k hk hlt => hm k hk.1 hk.2 hlt)⟩
theorem XQ.addN {ok : Nat → Prop} {v : Value} {l : List S61} (h : XQ w0 os W) (hb : Below W.heap.size W W1) (q : Kd.R k61 61 W1 W.heap.size ok v l) : XQ w0 (.net W.heap.size W1.heap.size v l :: os) W1 :=
  h.add hb (Nat.le_refl _) (Nat.le_refl _) (Kd.R_lower (Kd.R_mono (Kd.R_bound q) (fun k hk => ⟨hk.2.1, hk.2.2.1⟩)) h.hB.size)
theorem XQ.addR {ok : Nat → Prop} {v : Value} {l : List Int} (h : XQ w0 os W) (hb : Below W.heap.size W W1) (q : Kd.R (Kd.int .i64) 3 W1 W.heap.size ok v l) : XQ w0 (.row W.heap.size W1.heap.size v l :: os) W1 :=
  h.add hb (Nat.le_refl _) (Nat.le_refl _) (Kd.R_lower (Kd.R_mono (Kd.R_bound q) (fun k hk => ⟨hk.2.1, hk.2.2.1⟩)) h.hB.size)
theorem XQ.addT {ok : Nat → Prop} {v : Value} {l : List (List Int)} (h : XQ w0 os W) (hb : Below W.heap.size W W1) (q : Kd.S kSS 25 W1 W.heap.size ok v l) : XQ w0 (.tab W.heap.size W1.heap.size v l :: os) W1 :=
  h.add hb (Nat.le_refl _) (Nat.le_refl _) (Kd.S_lower (Kd.S_mono (Kd.S_bound q) (fun k hk => ⟨hk.2.1, hk.2.2.1⟩)) h.hB.size)
theorem XQ.addB {g : Nat} {cs : Array Value} {t : TypeId} (h : XQ w0 os W) (hg : g = W.heap.size) (hbox : W1.heap[g]? = some (.cells cs t (0, 0))) (hb : Below W.heap.size W W1) : XQ w0 (.box g cs t :: os) W1 :=
  h.add hb (Nat.le_of_eq hg.symm) (blk_lt hbox) hbox
theorem kept_set (W : World) (g j : Nat) (u : Value) : Kept W (W.setCell ⟨g, j, none⟩ u) (fun k => g ≤ k ∧ k < g + 1) := ⟨Nat.le_of_eq (by simp), fun k _ hne => Below.heap_setCell W ⟨g, j, none⟩ u k (fun e2 => hne (by have e3 : k = g := e2; subst e3; exact ⟨Nat.le_refl _, Nat.lt_succ_self _⟩))⟩
/-- a cell of the first box is set -/
theorem XQ.set {g : Nat} {cs cs' : Array Value} {t : TypeId} (h : XQ w0 (.box g cs t :: os) W) (j : Nat) (u : Value) (e : cs.setIfInBounds j u = cs') : XQ w0 (.box g cs' t :: os) (W.setCell ⟨g, j, none⟩ u) :=
  XQ.mark [] (o := .box g cs t) (o' := .box g cs' t) h rfl rfl (below_set h.hB (h.hO _ (List.mem_cons_self ..)).1) ⟨Nat.le_of_eq (by simp), fun k _ hne => Below.heap_setCell W ⟨g, j, none⟩ u k (fun e2 => hne (by have e3 : k = g := e2; subst e3; exact ⟨Nat.le_refl _, Nat.lt_succ_self _⟩))⟩ (blk_put (h.at (List.mem_cons_self ..)) j u e)
theorem XQ.set2 {g : Nat} {a0 a1 : Value} {t : TypeId} (h : XQ w0 (.box g #[a0, a1] t :: os) W) (u0 u1 : Value) : XQ w0 (.box g #[u0, u1] t :: os) ((W.setCell ⟨g, 0, none⟩ u0).setCell ⟨g, 1, none⟩ u1) := (h.set 0 u0 rfl).set 1 u1 rfl
theorem XQ.set3 {g : Nat} {a0 a1 a2 : Value} {t : TypeId} (h : XQ w0 (.box g #[a0, a1, a2] t :: os) W) (u0 u1 u2 : Value) : XQ w0 (.box g #[u0, u1, u2] t :: os) (((W.setCell ⟨g, 0, none⟩ u0).setCell ⟨g, 1, none⟩ u1).setCell ⟨g, 2, none⟩ u2) := ((h.set 0 u0 rfl).set 1 u1 rfl).set 2 u2 rfl
end
set_option maxHeartbeats 2000000 in
set_option maxRecDepth 100000 in
theorem markRank_x {w0 W : World} {os : List Ob} {a0 b0 a1 b1 a2 b2 : Nat} {u0 u1 u2 : Value} {r1 : List Int} {r2 r3 : List (List Int)} (m : Int) (h : XQ w0 (.row a0 b0 u0 r1 :: .tab a1 b1 u1 r2 :: .tab a2 b2 u2 r3 :: os) W) (hm : 0 ≤ m) (hl : m + r1.length + msum r2 + msum r3 ≤ 4611686018427387904) (n2 : r2.length ≤ 1048576) (n3 : r3.length ≤ 1048576) :
    Calls Try.prog 26 #[.agg #[u0, u1, u2], .int .i64 m] W fun e w' => e = .returned (.int .i64 (m + r1.length + msum r2 + msum r3)) ∧ XQ w0 (.row a0 b0 u0 (marks m r1.length) :: .tab a1 b1 u1 (marksSS (m + r1.length) r2) :: .tab a2 b2 u2 (marksSS (m + r1.length + msum r2) r3) :: os) w' := by
  have hu37 := Try.underlying37
  obtain ⟨km, hkm⟩ := (markIntS_marks r1 m hm (by omega)).get
  have E1 := Aside0.mk hkm
  have HQ := Aside0.mk h
  have M1 := Aside0.mk (show 0 ≤ m + (r1.length : Int) by omega)
  have M2 := Aside0.mk (show 0 ≤ m + (r1.length : Int) + (msum r2 : Int) by omega)
  have L1 := Aside0.mk (show m + (r1.length : Int) + (msum r2 : Int) ≤ 4611686018427387904 by omega)
  have L2 := Aside0.mk hl
  have N2 := Aside0.mk n2
  have N3 := Aside0.mk n3
  clear hkm h hm hl n2 n3
  go_enter Try.func26, Try.ntmps26
  go_upto_region 1 with ((with_reducible refine gate_dst (N := 2) rfl ?_); refine be (cs := #[u0, u1, u2]) (t := 37) ?_; intro g hg w1 hbox hb; replace HQ := Aside0.mk (HQ.out.add (o := .box g #[u0, u1, u2] 37) hb (Nat.le_of_eq hg.symm) (blk_lt hbox) hbox); clear hb hbox hg)
  have BK : Aside0 (w1.heap[g]? = some (.cells #[u0, u1, u2] 37 (0, 0))) := ⟨HQ.out.at (o := .box g #[u0, u1, u2] 37) (List.mem_cons_self ..)⟩
  obtain ⟨hz0, hz1, hz2, hf0, hf1, hf2⟩ := bc3 BK
  go_upto_region 2 with (go_at_call 27; refine (laws_markIntS.calls km (fun k => a0 ≤ k ∧ k < b0) u0 r1 m _ _ w0 w1 HQ.out.hB (HQ.out.at (o := .row a0 b0 u0 r1) (by simp)) E1.out).mono ?_; rintro e w2 ⟨rfl, hy, hb, hk⟩; replace HQ := Aside0.mk (XQ.mark [.box g #[u0, u1, u2] 37] (o := .row a0 b0 u0 r1) (o' := .row a0 b0 u0 (marks m r1.length)) HQ.out rfl rfl hb hk (Kd.R_reok rfl hy (fun k_ hk_ => (HQ.out.at (o := .row a0 b0 u0 r1) (by simp)).1 k_ hk_))); clear hy hb hk BK hz0 hz1 hz2 hf0 hf1 hf2)
  have BK : Aside0 (w2.heap[g]? = some (.cells #[u0, u1, u2] 37 (0, 0))) := ⟨HQ.out.at (o := .box g #[u0, u1, u2] 37) (List.mem_cons_self ..)⟩
  obtain ⟨hz0, hz1, hz2, hf0, hf1, hf2⟩ := bc3 BK
  go_upto_region 3 with (go_at_call 66; refine (laws_markIntSS_marks u1 r2 _ w0 w2 (fun k => a1 ≤ k ∧ k < b1) HQ.out.hB (HQ.out.at (o := .tab a1 b1 u1 r2) (by simp)) M1.out L1.out N2.out).mono ?_; rintro e w3 ⟨rfl, hy, hb, hk⟩; replace HQ := Aside0.mk (XQ.mark [.box g #[u0, u1, u2] 37, .row a0 b0 u0 (marks m r1.length)] (o := .tab a1 b1 u1 r2) (o' := .tab a1 b1 u1 (marksSS (m + r1.length) r2)) HQ.out rfl rfl hb hk hy); clear hy hb hk BK hz0 hz1 hz2 hf0 hf1 hf2)
  have BK : Aside0 (w3.heap[g]? = some (.cells #[u0, u1, u2] 37 (0, 0))) := ⟨HQ.out.at (o := .box g #[u0, u1, u2] 37) (List.mem_cons_self ..)⟩
  obtain ⟨hz0, hz1, hz2, hf0, hf1, hf2⟩ := bc3 BK
  go_upto_region 4 with (go_at_call 66; refine (laws_markIntSS_marks u2 r3 _ w0 w3 (fun k => a2 ≤ k ∧ k < b2) HQ.out.hB (HQ.out.at (o := .tab a2 b2 u2 r3) (by simp)) M2.out L2.out N3.out).mono ?_; rintro e w4 ⟨rfl, hy, hb, hk⟩; replace HQ := Aside0.mk (XQ.mark [.box g #[u0, u1, u2] 37, .row a0 b0 u0 (marks m r1.length), .tab a1 b1 u1 (marksSS (m + r1.length) r2)] (o := .tab a2 b2 u2 r3) (o' := .tab a2 b2 u2 (marksSS (m + r1.length + msum r2) r3)) HQ.out rfl rfl hb hk hy); clear hy hb hk BK hz0 hz1 hz2 hf0 hf1 hf2)
  go_wp2
  go_ret
  exact ⟨rfl, HQ.out.tail⟩
end Go.Proofs.Ytdlaaccnaokdnaa.P
