/- Contract: laws.markIntSS, by hand: each row in turn. -/
import Derived.Test.YtdlaaccnaokdnaaHUp
import Derived.Test.YtdlaaccnaokdnaaGMarks
import Derived.Test.YtdlaaccnaokdnaaMHelp2
set_option linter.unusedVariables false
set_option linter.unusedSimpArgs false
namespace Go.Proofs.Ytdlaaccnaokdnaa.P
open Go.RowKit Go.Proofs.YtdlaaccnaokdnaaV.PrintWords Go.Proofs.YtdlaaccnaokdnaaV.PrintLast Go.Proofs.YtdlaaccnaokdnaaV.PrintMore Go.Proofs.Ytdlaaccnaokdnaa.M
abbrev kSS : Kd (List Int) := Kd.slice 3 (Kd.int .i64)
/-- how many numbers the rows have -/
def msum (l : List (List Int)) : Nat := (l.map List.length).sum
def marksSS : Int → List (List Int) → List (List Int)
  | _, [] => []
  | m, r :: rs => marks m r.length :: marksSS (m + r.length) rs
theorem marksSS_length : ∀ (m : Int) (l : List (List Int)), (marksSS m l).length = l.length
  | _, [] => rfl
  | m, r :: rs => by simp [marksSS, marksSS_length _ rs]
theorem msum_snoc (l : List (List Int)) (r : List Int) : msum (l ++ [r]) = msum l + r.length := by simp [msum]
theorem marksSS_snoc : ∀ (m : Int) (l : List (List Int)) (r : List Int), marksSS m (l ++ [r]) = marksSS m l ++ [marks (m + msum l) r.length]
  | m, [], r => by simp [marksSS, msum]
  | m, x :: l, r => by
    simp only [List.cons_append, marksSS, marksSS_snoc (m + x.length) l r]
    rw [show m + (x.length : Int) + (msum l : Int) = m + (msum (x :: l) : Int) by simp [msum]; omega]
theorem msum_take (l : List (List Int)) (i : Nat) (hi : i < l.length) : msum (l.take (i + 1)) = msum (l.take i) + l[i].length := by
  rw [List.take_add_one, List.getElem?_eq_getElem hi]
  exact msum_snoc _ _
theorem msum_le (l : List (List Int)) (i : Nat) : msum (l.take i) ≤ msum l := by
  have h : msum l = msum (l.take i) + msum (l.drop i) := by
    conv => lhs; rw [← List.take_append_drop i l]
    simp only [msum, List.map_append, List.sum_append]
  omega
theorem marksSS_put (m : Int) (l : List (List Int)) (i : Nat) (hi : i < l.length) : (marksSS m (l.take i) ++ l.drop i).set i (marks (m + msum (l.take i)) l[i].length) = marksSS m (l.take (i + 1)) ++ l.drop (i + 1) := by
  have e : (marksSS m (l.take i)).length = i := by rw [marksSS_length, List.length_take]; omega
  rw [List.set_append_right _ _ (by omega), e, Nat.sub_self, List.drop_eq_getElem_cons hi, List.set_cons_zero, List.take_add_one, List.getElem?_eq_getElem hi, show (some l[i]).toList = [l[i]] from rfl, marksSS_snoc]
  simp
/-- one of the rows is written -/
theorem rows_put {f : Nat → Nat} {W W' : World} {base g n cap : Nat} {ok okq : Nat → Prop} {xs : List (List Int)} {i : Nat} {v : Value} {ys : List Int}
    (h : (Kd.tag f kSS).R 25 W base ok (.slice (some ⟨g, 0, none⟩) n cap) xs.zipIdx) (hi : i < xs.length) (hc : W.cell? ⟨g, i, none⟩ = some v)
    (hy : Kd.R (Kd.int .i64) 3 W' base okq v ys) (hk : Kept W W' (fun k => some k = v.ownBlock)) :
    (Kd.tag f kSS).R 25 W' base ok (.slice (some ⟨g, 0, none⟩) n cap) (xs.set i ys).zipIdx := by
  obtain ⟨h0, inner, ho, hr⟩ := h
  have hzl : xs.zipIdx.length = xs.length := by simp
  have hil : inner.length = xs.length := by have := hr.1; rw [hzl] at this; exact this.trans (Nat.mul_one _)
  have hiv : inner[i]? = some v := by
    have h1 := ho.cells (g := g) (by simp [Value.ownBlock]) i _ (List.getElem?_eq_getElem (by omega))
    have h2 : (⟨g, 0, none⟩ : Addr).add i = ⟨g, i, none⟩ := by unfold Addr.add; split <;> simp_all
    rw [h2, hc] at h1
    rw [List.getElem?_eq_getElem (by omega)]
    exact h1.symm
  have hseg : ∀ j, j < xs.length → ∃ u, inner[j]? = some u ∧ (inner.drop (j * 1)).take 1 = [u] := fun j hj => by
    refine ⟨inner[j], List.getElem?_eq_getElem (by omega), ?_⟩
    rw [Nat.mul_one, List.drop_eq_getElem_cons (by omega)]
    rfl
  have hMi := hr.2 i (xs[i], i) (Kd.zip_at (List.getElem?_eq_getElem hi))
  obtain ⟨v', hv', hR⟩ := hMi
  obtain ⟨u, hu1, hu2⟩ := hseg i hi
  have huv : u = v := Option.some.inj (hu1.symm.trans hiv)
  subst huv
  have hv2 : v' = u := by
    have h3 : (inner.drop (i * 1)).take 1 = [v'] := hv'
    rw [hu2] at h3
    exact (List.cons.inj h3).1.symm
  subst hv2
  refine ⟨h0, inner, ?_, ?_⟩
  · have ho2 : W'.ownsWeak base 25 1 (.slice (some ⟨g, 0, none⟩) n cap) xs.zipIdx.length inner := own_move ho (fun k hk2 => by
      have hgk : g = k := by simpa [Value.ownBlock] using hk2
      subst hgk
      refine hk.2 g (own_lt ho g hk2) (fun h4 => ?_)
      exact (hR.1 g h4.symm).1.2 rfl)
    have e : (xs.set i ys).zipIdx.length = xs.zipIdx.length := by simp
    rw [e]
    exact ho2
  · refine ⟨by rw [hil]; simp; exact (Nat.mul_one _).symm, fun j p hj => ?_⟩
    have hjl : j < xs.length := by have := (List.getElem?_eq_some_iff.1 hj).1; simpa using this
    by_cases hji : j = i
    · subst hji
      rw [Kd.zip_at (show (xs.set j ys)[j]? = some ys from by rw [List.getElem?_set_self hjl])] at hj
      obtain rfl := Option.some.inj hj
      refine ⟨v', hu2, Kd.R_reok rfl hy (fun k hk2 => hR.1 k hk2)⟩
    · rw [Kd.zip_at (show (xs.set i ys)[j]? = some xs[j] from by rw [List.getElem?_set_ne (fun e => hji e.symm)]; exact List.getElem?_eq_getElem hjl)] at hj
      obtain rfl := Option.some.inj hj
      have hMj := hr.2 j (xs[j], j) (Kd.zip_at (List.getElem?_eq_getElem hjl))
      refine Kd.M_step (d := kSS) (x := xs[j]) (ok := fun k => (ok k ∧ some k ≠ (Value.slice (some ⟨g, 0, none⟩) n cap).ownBlock) ∧ f k = j) hMj (fun k hok hlt => hk.2 k hlt (fun h4 => ?_))
      have h5 := (hR.1 k h4.symm).2
      have h6 : f k = j := hok.2
      exact hji (h6.symm.trans h5)
set_option maxHeartbeats 2000000 in
theorem laws_markIntSS_marks (u : Value) (l : List (List Int)) (m : Int) (w0 w : World) (P : Nat → Prop) (hB : Below w0.heap.size w0 w) (ho : Kd.S kSS 25 w w0.heap.size P u l) (hm : 0 ≤ m) (hl : m + msum l ≤ 4611686018427387904) (hn : l.length ≤ 1048576) :
    Calls Try.prog 66 #[u, .int .i64 m] w fun e w' => e = .returned (.int .i64 (m + msum l)) ∧ Kd.S kSS 25 w' w0.heap.size P u (marksSS m l) ∧ Below w0.heap.size w0 w' ∧ Kept w w' P := by
  obtain ⟨A, c, rfl⟩ := Kd.S_slice ho
  have HO0 := Aside0.mk ho
  have HB := Aside0.mk hB
  have HM := Aside0.mk hm
  have HL := Aside0.mk hl
  clear ho hB hm hl
  obtain ⟨n, hN⟩ : ∃ n, n = l.length := ⟨_, rfl⟩
  rw [← hN] at HO0 hn ⊢
  have HN := Aside0.mk hN
  clear hN
  go_enter Try.func66, Try.ntmps66
  go_wp2
  go_loopg [1, 5] n (fun gg s1 s5 wr => ∃ i : Nat, s5 = .int .i64 (i : Int) ∧ s1 = .int .i64 (m + msum (l.take i)) ∧ i ≤ n ∧ n - i ≤ gg ∧ Aside0 (Kd.S kSS 25 wr w0.heap.size P (.slice A n c) (marksSS m (l.take i) ++ l.drop i)) ∧ Aside0 (Below w0.heap.size w0 wr) ∧ Aside0 (Kept w wr P))
  case atStart => exact ⟨0, rfl, by simp [msum], Nat.zero_le _, Nat.le_refl _, ⟨by simpa [marksSS] using HO0.out⟩, HB, ⟨Kept.refl w P⟩⟩
  case round =>
    clear HO0 HB
    obtain ⟨i, rfl, rfl, hin, hgg, HO, HB, HK⟩ := hrel
    by_cases hlt : i < n
    · have hltz := dl (show (i : Int) < (n : Int) by omega)
      have p0 := eq_true (show 0 ≤ (i : Int) by omega)
      have q0 := eq_true (show (i : Int) < (n : Int) by omega)
      have hil : i < l.length := by have := HN.out; omega
      obtain ⟨X, hX⟩ : ∃ X, X = marksSS m (l.take i) ++ l.drop i := ⟨_, rfl⟩
      rw [← hX] at HO
      have hXi : X[i]? = some l[i] := by
        have e : (marksSS m (l.take i)).length = i := by rw [marksSS_length, List.length_take]; omega
        rw [hX, List.getElem?_append_right (by omega), e, Nat.sub_self, List.getElem?_drop, Nat.add_zero]
        exact List.getElem?_eq_getElem hil
      obtain ⟨f, hf⟩ := HO.out
      have hXl : X.length = n := by have := (Kd.S_reads' HO.out).1; omega
      obtain ⟨g, cap', hvv, hbase, hglt, cells0, hcells0⟩ := Kd.R_form hf (by simp; omega)
      simp only [Value.slice.injEq] at hvv
      have hA := hvv.1
      clear hvv
      subst hA
      obtain ⟨ce, hcl, hM, hcc, hfr⟩ := Kd.R_elem hf (([] : List Int), 0) (i : Int) (by omega) (by omega)
      have hzi : X.zipIdx.getD (i : Int).toNat (([] : List Int), 0) = (l[i], i) := by
        have := Kd.zip_at hXi
        simp [List.getD, this]
      rw [hzi] at hM
      obtain ⟨v, rfl, hR⟩ := hM
      have hcell : wr.cell? ⟨g, i, none⟩ = some v := by
        have := hcc 0 v rfl
        simpa only [show (Kd.tag f kSS).sz = 1 from rfl, Nat.mul_one, Nat.add_zero, Int.toNat_natCast] using this
      have hsm := msum_take l i hil
      have hsl := msum_le l (i + 1)
      obtain ⟨km, hkm⟩ := (markIntS_marks l[i] (m + msum (l.take i)) (by have := HM.out; omega) (by have := HL.out; omega)).get
      have HC := Aside0.mk (laws_markIntS.calls km (fun k => some k = v.ownBlock) v l[i] (m + msum (l.take i)) _ _ w0 wr HB.out (Kd.R_tight rfl hR) hkm)
      have HF := Aside0.mk hf
      have HR := Aside0.mk hR
      have HX := Aside0.mk hX
      have HS := Aside0.mk hsm
      have HSL := Aside0.mk hsl
      have HXL := Aside0.mk hXl
      have HCE := Aside0.mk hcell
      clear hf hR hX hXi hfr hcc hcl hzi hkm hcells0 cells0 hbase hglt HO hsm hsl hXl
      go_wp2_with (first | (go_at_call 27; refine HC.out.mono ?_; rintro e w1 ⟨rfl, hy, hb, hk⟩))
      go_roundg (n - i - 1)
      case measure => omega
      case rel =>
        refine ⟨i + 1, congrArg (Value.int .i64) (by omega), congrArg (Value.int .i64) (by have := HS.out; omega), by omega, by omega, ⟨f, ?_⟩, ⟨hb⟩, ⟨Kept.then_ HK.out hk (fun k hk2 => .inl (HR.out.1 k hk2.symm).1.1)⟩⟩
        have h9 := rows_put HF.out (by have := HXL.out; omega) HCE.out hy hk
        rw [HX.out, marksSS_put m l i hil] at h9
        exact h9
    · have hltz := DL (show ¬ (i : Int) < (n : Int) by omega)
      have hi : i = n := by omega
      subst hi
      go_wp2
      go_ret
      have h1 := HO.out
      rw [List.take_of_length_le (by have := HN.out; omega), List.drop_eq_nil_of_le (by have := HN.out; omega), List.append_nil] at h1
      exact ⟨by rw [List.take_of_length_le (by have := HN.out; omega)]; rfl, h1, HB.out, HK.out⟩
end Go.Proofs.Ytdlaaccnaokdnaa.P
