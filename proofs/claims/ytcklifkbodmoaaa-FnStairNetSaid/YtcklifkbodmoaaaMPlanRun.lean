/- What the program's and the reference's timetable functions come to, of a plan that is one. -/
import Derived.Test.YtcklifkbodmoaaaMPlanOk
import Derived.Test.YtcklifkbodmoaaaPFImplPlanRides
import Derived.Test.YtcklifkbodmoaaaPFImplPlanArrivals
import Derived.Test.YtcklifkbodmoaaaPFSpecL6All
set_option linter.unusedVariables false
namespace Go.Proofs.Ytcklifkbodmoaaa.M
open Go.RowKit Go.Proofs.Ytcklifkbodmoaaa.P Go.Proofs.YtcklifkbodmoaaaV.PrintWords Go.Proofs.YtcklifkbodmoaaaV.PrintMore
theorem mn_min2 (a b : Int) : mn a b = min2 a b := rfl
section
variable {l : List Cn} {s ch src t0 : Int}
theorem rides_l2 (ok : Ok s ch l) {R : List Int} (hR : InvR l ch src t0 R) (fl : Bool) {k : Nat} (hk : k < l.length) (x : Int) {X : List Int}
    (hnext : Ev (fun m => if lst2 l ch R (cn l k) l.length x < rd R (k : Int) then impl_Plan_rides.l1 m src t0 17 (R.set k (lst2 l ch R (cn l k) l.length x)) true l (l.length : Int) ((k + 1 : Nat) : Int) s ch l else impl_Plan_rides.l1 m src t0 17 R fl l (l.length : Int) ((k + 1 : Nat) : Int) s ch l) X) :
    Ev (fun m => impl_Plan_rides.l2 m src t0 17 R fl (k : Int) x l (l.length : Int) (k : Int) l (l.length : Int) 0 s ch l (cn l k).f0 (cn l k).f1 (cn l k).f2 (cn l k).f3 (cn l k).f4) X := by
  have hlen := ok.len
  have hRl := hR.len
  refine downto (P := fun i => Ev (fun m => impl_Plan_rides.l2 m src t0 17 R fl (k : Int) (lst2 l ch R (cn l k) i x) l (l.length : Int) (k : Int) l (l.length : Int) (i : Int) s ch l (cn l k).f0 (cn l k).f1 (cn l k).f2 (cn l k).f3 (cn l k).f4) X) (n := l.length) ?_ ?_
  · refine Ev.step (fun m => ?_) hnext
    simp only [impl_Plan_rides.l2]
    rw [if_neg (by omega), if_pos (by omega), if_pos (by omega), w64s (by omega), Int.toNat_natCast]
  · intro i hi h
    refine Ev.step (fun m => ?_) h
    have a := ok.at_ i hi
    have b := hR.in_ i hi
    have hc := ok.c0
    have hc1 := ok.c1
    simp only [impl_Plan_rides.l2, lst2]
    rw [if_pos (by omega), if_pos (by omega), if_pos (by omega), rdT_cn, w64s (by omega), w64 (n := (cn l i).f3 + ch) (by omega), w64 (n := rd R (i : Int) + 1) (by omega), mn_min2]
    by_cases c1 : (cn l i).f1 = (cn l k).f0
    · rw [if_pos c1]
      by_cases c2 : (cn l i).f3 + ch ≤ (cn l k).f2
      · rw [if_pos c2, if_pos (by omega)]
        by_cases c3 : rd R (i : Int) < 17
        · rw [if_pos c3, if_pos ⟨c1, c2, c3⟩]
        · rw [if_neg c3, if_neg (fun h => c3 h.2.2)]
      · rw [if_neg c2, if_neg (fun h => c2 h.2.1)]
    · rw [if_neg c1, if_neg (fun h => c1 h.1)]
theorem rides_l1 (ok : Ok s ch l) {R : List Int} (hR : InvR l ch src t0 R) (fl : Bool) {X : List Int}
    (hnext : Ev (fun m => impl_Plan_rides.l0 m src t0 17 (passR l ch src t0 l.length (R, fl)).1 (passR l ch src t0 l.length (R, fl)).2 s ch l) X) :
    Ev (fun m => impl_Plan_rides.l1 m src t0 17 R fl l (l.length : Int) 0 s ch l) X := by
  have hlen := ok.len
  refine downto (P := fun i => Ev (fun m => impl_Plan_rides.l1 m src t0 17 (passR l ch src t0 i (R, fl)).1 (passR l ch src t0 i (R, fl)).2 l (l.length : Int) (i : Int) s ch l) X) (n := l.length) ?_ ?_
  · refine Ev.step (fun m => ?_) hnext
    simp only [impl_Plan_rides.l1]
    rw [if_neg (by omega)]
  · intro i hi h
    have hI : InvR l ch src t0 (passR l ch src t0 i (R, fl)).1 := by
      rcases passR_inv hR fl i (by omega) with ⟨e, _⟩ | ⟨_, e, _⟩
      · rw [e]; exact hR
      · exact e
    simp only [passR] at h
    generalize passR l ch src t0 i (R, fl) = st at h hI
    obtain ⟨R', b'⟩ := st
    simp only at h hI
    have hRl := hI.len
    have fin : ∀ x, lst0 src t0 (cn l i) = x → Ev (fun m => impl_Plan_rides.j3 m src t0 17 R' b' (i : Int) x l (l.length : Int) (i : Int) s ch l (cn l i).f0 (cn l i).f1 (cn l i).f2 (cn l i).f3 (cn l i).f4) X := by
      intro x hx
      refine Ev.step (fun m => by simp only [impl_Plan_rides.j3] <;> rfl) (Ev.bind (before_ev s ch hi (by omega)) ?_)
      have go : ∀ y, lst1 l R' i x = y → Ev (fun m => impl_Plan_rides.j4 m src t0 17 R' b' (i : Int) y l (l.length : Int) (i : Int) s ch l (cn l i).f0 (cn l i).f1 (cn l i).f2 (cn l i).f3 (cn l i).f4) X := by
        intro y hy
        refine Ev.step (fun m => by simp only [impl_Plan_rides.j4] <;> rfl) (rides_l2 ok hI b' hi y ?_)
        have e : lst2 l ch R' (cn l i) l.length y = least l ch src t0 R' i := by rw [← hy, ← hx]; rfl
        rw [e]
        unfold stepR at h
        simp only at h
        by_cases hc : least l ch src t0 R' i < rd R' (i : Int)
        · rw [if_pos hc] at h
          exact Ev.pos hc h
        · rw [if_neg hc] at h
          exact Ev.neg hc h
      unfold befI
      cases hb : bef l i with
      | none => exact Ev.neg (by simp) (go _ (by simp [lst1, hb]))
      | some j =>
        obtain ⟨hj, _, _⟩ := befAt_some hb
        simp only
        refine Ev.pos (by omega) (Ev.pos (by omega) (Ev.pos (by omega) (go _ ?_)))
        simp [lst1, hb, mn_min2]
    have start : ∀ b, decide ((cn l i).f0 = src ∧ t0 ≤ (cn l i).f2) = b → Ev (fun m => impl_Plan_rides.j2 m src t0 17 R' b' (i : Int) 17 l (l.length : Int) (i : Int) b s ch l (cn l i).f0 (cn l i).f1 (cn l i).f2 (cn l i).f3 (cn l i).f4) X := by
      intro b hb
      refine Ev.step (fun m => by simp only [impl_Plan_rides.j2] <;> rfl) ?_
      cases b with
      | true => exact Ev.pos rfl (fin _ (by unfold lst0; rw [if_pos (of_decide_eq_true hb)]))
      | false => exact Ev.neg (by simp) (fin _ (by unfold lst0; rw [if_neg (of_decide_eq_false hb)]))
    refine Ev.step (fun m => by simp only [impl_Plan_rides.l1]; rw [if_pos (by omega), if_pos (by omega), if_pos (by omega)]) ?_
    simp only [rdT_cn]
    by_cases c : (cn l i).f0 = src
    · refine Ev.pos c (start _ ?_)
      simp [c]
    · refine Ev.neg c (start _ ?_)
      simp [c]
theorem rides_ev (ok : Ok s ch l) : ∃ R, Ev (fun m => impl_Plan_rides.f m s ch l src t0) R ∧ InvR l ch src t0 R ∧ TightR l ch src t0 R := by
  have hlen := ok.len
  have key : ∀ R, InvR l ch src t0 R → ∃ X, Ev (fun m => impl_Plan_rides.l0 m src t0 17 R true s ch l) X ∧ InvR l ch src t0 X ∧ TightR l ch src t0 X := by
    refine rides_end (P := fun R => ∃ X, Ev (fun m => impl_Plan_rides.l0 m src t0 17 R true s ch l) X ∧ InvR l ch src t0 X ∧ TightR l ch src t0 X) ?_ ?_
    · intro R hR hfl ⟨X, hX, hI, hT⟩
      refine ⟨X, ?_, hI, hT⟩
      refine Ev.step (fun m => by simp only [impl_Plan_rides.l0, if_true] <;> rfl) (rides_l1 ok hR false ?_)
      rw [hfl]
      exact hX
    · intro R hR hT he
      refine ⟨R, ?_, hR, hT⟩
      refine Ev.step (fun m => by simp only [impl_Plan_rides.l0, if_true] <;> rfl) (rides_l1 ok hR false ?_)
      rw [he]
      exact Ev.step (fun m => by simp only [impl_Plan_rides.l0] <;> rfl) (Ev.neg (by simp) (Ev.ret _))
  obtain ⟨X, hX, hI, hT⟩ := key _ (rides0_inv (src := src) (t0 := t0) (ch := ch) l.length rfl)
  refine ⟨X, ?_, hI, hT⟩
  refine Ev.congr (fun m => ?_) hX
  unfold impl_Plan_rides.f slices_Repeat_int.f
  rw [if_pos ⟨rfl, by omega, by omega⟩, Int.toNat_natCast]
  rfl
theorem arrivals_ev (ok : Ok s ch l) (hsrc : 0 ≤ src ∧ src < s) {R : List Int} (hR : R.length = l.length) (most : Int) : Ev (fun m => impl_Plan_arrivals.f m s ch l R src t0 most) (arrL R most l s src t0) := by
  have hlen := ok.len
  have s1 := ok.s1
  have s8 := ok.s8
  refine Ev.congr (G := fun m => impl_Plan_arrivals.l0 m R src t0 most (List.replicate s.toNat 99999) l (l.length : Int) 0) (fun m => ?_) ?_
  · unfold impl_Plan_arrivals.f slices_Repeat_int.f
    rw [if_pos ⟨rfl, by omega, by omega⟩]
    rfl
  refine downto (P := fun i => Ev (fun m => impl_Plan_arrivals.l0 m R src t0 most (passA R most l i (List.replicate s.toNat 99999)) l (l.length : Int) (i : Int)) (arrL R most l s src t0)) (n := l.length) ?_ ?_
  · have hd := (passA_inv ok R most l.length (Nat.le_refl _)).len
    refine Ev.step (fun m => by simp only [impl_Plan_arrivals.l0]; rw [if_neg (by omega), if_pos hsrc.1, if_pos (by omega)]) ?_
    exact Ev.of fun m => rfl
  · intro i hi h
    have hd := (passA_inv ok R most i (by omega)).len
    have a := ok.at_ i hi
    refine Ev.step (fun m => ?_) h
    simp only [impl_Plan_arrivals.l0, passA]
    generalize passA R most l i (List.replicate s.toNat 99999) = d at hd
    rw [if_pos (by omega), if_pos (by omega), if_pos (by omega), if_pos (by omega), rdT_cn, w64s (by omega)]
    unfold stepA
    by_cases hc : rd R (i : Int) ≤ most
    · rw [if_pos hc, if_pos hc, if_pos (by omega), if_pos (by omega)]
      rfl
    · rw [if_neg hc, if_neg hc]
/-! the reference -/
theorem rdOf_onAt (on : List Bool) (t : Int) : rdOf false on t = onAt on t := rfl
theorem canB_no {was : List Int} {c : Cn} (h : ¬ (rd was c.f0 < 99999 ∧ rd was c.f0 + ch ≤ c.f2)) : canB ch src t0 was c = (decide (c.f0 = src) && decide (t0 ≤ c.f2)) := by
  unfold canB
  have : (decide (rd was c.f0 < 99999) && decide (rd was c.f0 + ch ≤ c.f2)) = false := by
    rw [Bool.and_eq_false_iff, decide_eq_false_iff_not, decide_eq_false_iff_not]
    omega
  rw [this, Bool.false_or]
theorem canB_yes {was : List Int} {c : Cn} (h1 : rd was c.f0 < 99999) (h2 : rd was c.f0 + ch ≤ c.f2) : canB ch src t0 was c = true := by
  unfold canB
  rw [decide_eq_true h1, decide_eq_true h2]
  rfl
theorem l6On_ev (ok : Ok s ch l) {d : List Int} {on : List Bool} {c : Cn} (hd : (d.length : Int) = s) (ho : on.length = 6) (h0 : 0 ≤ c.f0 ∧ c.f0 < s) (h4 : 0 ≤ c.f4 ∧ c.f4 ≤ 5) (hr : 0 ≤ rd d c.f0 ∧ rd d c.f0 ≤ 99999) :
    spec_l6On.f s ch l d on src t0 c.f0 c.f1 c.f2 c.f3 c.f4 = some (onAt on c.f4 || canB ch src t0 d c) := by
  have c0 := ok.c0
  have c1 := ok.c1
  unfold spec_l6On.f
  rw [if_pos h4.1, if_pos (by omega), rdOf_onAt]
  cases onAt on c.f4 with
  | true => rfl
  | false =>
    rw [if_neg (by simp), if_pos h0.1, if_pos (by omega), w64 (by omega), Bool.false_or]
    by_cases e1 : rd d c.f0 < 99999
    · rw [if_pos e1]
      by_cases e2 : rd d c.f0 + ch ≤ c.f2
      · rw [if_pos e2, canB_yes e1 e2]
      · rw [if_neg e2, canB_no (fun h => e2 h.2)]
        by_cases e3 : c.f0 = src
        · rw [if_pos e3, decide_eq_true e3, Bool.true_and]
        · rw [if_neg e3, decide_eq_false e3, Bool.false_and]
    · rw [if_neg e1, canB_no (fun h => e1 h.1)]
      by_cases e3 : c.f0 = src
      · rw [if_pos e3, decide_eq_true e3, Bool.true_and]
      · rw [if_neg e3, decide_eq_false e3, Bool.false_and]
theorem dS_bnd (ok : Ok s ch l) {d : List Int} (h : ∀ v, 0 ≤ v → v < s → rd d v = 99999 ∨ ∃ k n, Ont l ch src t0 n k ∧ (cn l k).f1 = v ∧ rd d v = (cn l k).f3) {v : Int} (h0 : 0 ≤ v) (h1 : v < s) : 0 ≤ rd d v ∧ rd d v ≤ 99999 := by
  rcases h v h0 h1 with e | ⟨k, n, hk, _, e⟩
  · omega
  · have := ok.at_ k hk.lt
    omega
theorem l6All_l2 (ok : Ok s ch l) (hch : Chain l) {r : Nat} {st : St} (hI : I6 l s ch src t0 r 0 st) {rr : Int} {X : List Int}
    (hnext : Ev (fun m => spec_l6All.l1 m src t0 (pass6 ch src t0 l st).1 noOn (wrap64 (rr + 1)) s ch l) X) :
    Ev (fun m => spec_l6All.l2 m src t0 st.1 st.2 rr 0 s ch l) X := by
  have hlen := ok.len
  refine downto (P := fun i => Ev (fun m => spec_l6All.l2 m src t0 (pass6 ch src t0 (l.take i) st).1 (pass6 ch src t0 (l.take i) st).2 rr (i : Int) s ch l) X) (n := l.length) ?_ ?_
  · rw [List.take_length]
    refine Ev.step (fun m => ?_) hnext
    simp only [spec_l6All.l2]
    rw [if_neg (by omega), if_pos (by decide)]
    rfl
  · intro i hi h
    have hi6 := pass6_inv ok hch hI i (by omega)
    have e : pass6 ch src t0 (l.take (i + 1)) st = stepP ch src t0 (pass6 ch src t0 (l.take i) st).1 (pass6 ch src t0 (l.take i) st) (cn l i) := by
      unfold pass6
      rw [foldl_take _ _ _ _ hi, cn_at]
    rw [e] at h
    generalize pass6 ch src t0 (l.take i) st = st' at h hi6
    obtain ⟨d, on⟩ := st'
    have a := ok.at_ i hi
    have hd := hi6.len
    have ho := hi6.on6
    simp only at hd ho h
    refine Ev.step (fun m => ?_) h
    simp only [spec_l6All.l2]
    rw [if_pos (by omega), if_pos (by omega), rdT_cn, l6On_ev ok hd ho ⟨a.1, a.2.1⟩ (by omega) (dS_bnd ok hi6.dS a.1 a.2.1), bindS, w64s (by omega)]
    unfold stepP
    simp only
    by_cases hx : (onAt on (cn l i).f4 || canB ch src t0 d (cn l i)) = true
    · rw [if_pos hx, if_pos hx, if_pos (by omega), if_pos (by omega), bindS, if_pos (by omega), if_pos (by omega)]
      by_cases hc : (cn l i).f3 < rd d (cn l i).f1
      · rw [if_pos hc, if_pos hc]
      · rw [if_neg hc, if_neg hc]
    · rw [if_neg hx, if_neg hx]
theorem fill_set (n i : Nat) (x y : Int) (hi : i < n) : (List.replicate i x ++ List.replicate (n - i) y).set i x = List.replicate (i + 1) x ++ List.replicate (n - (i + 1)) y := by
  rw [List.set_append_right _ _ (by simp), List.replicate_succ', List.append_assoc]
  congr 1
  simp only [List.length_replicate, Nat.sub_self, List.singleton_append]
  rw [show n - i = (n - (i + 1)) + 1 by omega, List.replicate_succ, List.set_cons_zero]
theorem l6All_ev (ok : Ok s ch l) (hch : Chain l) (hsrc : 0 ≤ src ∧ src < s) : Ev (fun m => spec_l6All.f m s ch l src t0) (all6 ch src t0 l s) := by
  have hlen := ok.len
  have s1 := ok.s1
  have s8 := ok.s8
  obtain ⟨n, rfl⟩ := Int.eq_ofNat_of_zero_le (show 0 ≤ s by omega)
  refine Ev.congr (G := fun m => spec_l6All.l0 m src t0 (List.replicate n 0) noOn 0 n ch l) (fun m => by unfold spec_l6All.f; rw [if_pos (by omega), if_pos (by omega), if_pos (by decide)] <;> rfl) ?_
  have h0 : List.replicate n (0 : Int) = List.replicate 0 (99999 : Int) ++ List.replicate (n - 0) 0 := by simp
  rw [h0]
  refine downto (P := fun i => Ev (fun m => spec_l6All.l0 m src t0 (List.replicate i 99999 ++ List.replicate (n - i) 0) noOn (i : Int) n ch l) (all6 ch src t0 l n)) (n := n) ?_ ?_
  · refine Ev.step (G := fun m => spec_l6All.l1 m src t0 (List.replicate n 99999) noOn 0 n ch l) (fun m => by simp only [spec_l6All.l0]; rw [if_neg (by omega)]; simp) ?_
    have key := downto (P := fun r => Ev (fun m => spec_l6All.l1 m src t0 (d6 ch src t0 l n r) noOn (r : Int) n ch l) (all6 ch src t0 l n)) (n := l.length + 1) ?_ ?_
    · have e : d6 ch src t0 l (n : Int) 0 = List.replicate n 99999 := by simp [d6]
      rw [e] at key
      exact key
    · have h := (d6_inv (src := src) (t0 := t0) ok hch (l.length + 1)).len
      simp only at h
      refine Ev.step (fun m => by simp only [spec_l6All.l1]; rw [if_neg (by omega), if_pos hsrc.1, if_pos (by omega)]) ?_
      exact Ev.of fun m => rfl
    · intro r hr hnext
      refine Ev.step (fun m => by simp only [spec_l6All.l1]; rw [if_pos (by omega)]) ?_
      refine l6All_l2 ok hch (d6_inv (src := src) (t0 := t0) ok hch r) (rr := (r : Int)) ?_
      rw [w64s (by omega)]
      exact hnext
  · intro i hi hnext
    refine Ev.step (fun m => ?_) hnext
    simp only [spec_l6All.l0]
    rw [if_pos (by omega), if_pos (by omega), if_pos (by simp; omega), w64s (by omega), Int.toNat_natCast, fill_set _ _ _ _ hi]
end
end Go.Proofs.Ytcklifkbodmoaaa.M
