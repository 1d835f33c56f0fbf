/- Contracts: slices.insertionSortCmpFunc, stableCmpFunc, SortStableFunc at connections, by hand. -/
import Derived.Test.YtcklifkbodmoaaaHUp
import Derived.Test.YtcklifkbodmoaaaGPBase
import Derived.Test.YtcklifkbodmoaaaMInsG
set_option linter.unusedVariables false
set_option linter.unusedSimpArgs false
namespace Go.Proofs.Ytcklifkbodmoaaa.P
open Go.RowKit Go.Proofs.YtcklifkbodmoaaaV.PrintWords Go.Proofs.YtcklifkbodmoaaaV.PrintLast Go.Proofs.YtcklifkbodmoaaaV.PrintMore Go.Proofs.Ytcklifkbodmoaaa.M
def isort_T : Bool × List (List Nat × List Nat) := (true, [([], []), ([], []), ([0, 1], [0, 1]), ([2], [2]), ([3], [3]), ([3], [3]), ([3], [3]), ([5, 6, 3], [3, 5, 6]), ([7, 3], [3, 7]), ([3], [3]), ([3], [3]), ([10, 3], [3, 10]), ([9, 11, 3], [3, 9, 11]), ([12, 3], [3, 12]), ([4, 8, 13, 3, 3], [3, 4, 8, 13]), ([14, 3], [3, 14]), ([3, 15], [3, 15])])
def isort_B : List Nat := [0, 0, 3, 7, 15, 15, 15, 111, 239, 15, 15, 1039, 3599, 7695, 16383, 32767, 65535]
theorem isort_tab : rtab .any (opsOf Try.f105 4) = isort_T := by kernel_rfl
theorem isort_bits : waitsOk isort_T.2 isort_B = true := by kernel_rfl
def isortX_T : Bool × List (List Nat × List Nat) := (true, [([], []), ([], []), ([], []), ([], []), ([3], [3]), ([], []), ([], []), ([6], [6]), ([5, 7], [5, 7]), ([8], [8]), ([], []), ([], []), ([10, 11], [10, 11]), ([12], [12]), ([0, 1, 0, 1, 5, 6, 7, 8, 9, 13], [0, 1]), ([14, 9, 0, 1, 5, 6, 7, 8, 9, 13], [9, 14]), ([2, 4, 0, 1, 2, 3, 4, 5, 6, 7, 8, 9, 10, 11, 12, 13, 14, 15], [2, 4]), ([16, 13, 15, 0, 1, 2, 3, 4, 5, 6, 7, 8, 9, 10, 11, 12, 13, 14, 15], [13, 16])])
def isortX_B : List Nat := [0, 0, 0, 0, 8, 0, 0, 64, 224, 480, 0, 0, 3072, 7168, 16355, 32739, 65535, 131071]
theorem isortX_tab : rtab .any (opsOf Try.f105 6) = isortX_T := by kernel_rfl
theorem isortX_bits : waitsOk isortX_T.2 isortX_B = true := by kernel_rfl
theorem grown_trans {a b c : World} {r : Option Nat} (h : a.grownBy b r) (k : b.grownBy c r) : a.grownBy c r :=
  ⟨k.os.trans h.os, k.tape.trans h.tape, k.output.trans h.output, Nat.le_trans h.size k.size, fun i hi hne => (k.block i (Nat.lt_of_lt_of_le hi h.size) hne).trans (h.block i hi hne)⟩
theorem grown_below {a b : World} {r : Option Nat} (h : Below a.heap.size a b) : a.grownBy b r := ⟨h.os, h.tape, h.output, h.size, fun i hi _ => h.block i hi⟩
theorem rdCo_at (l : List Co) (i : Nat) (hi : i < l.length) : rd_T32 l (i : Int) = l[i] := by
  simp [rd_T32, List.getD, hi]
def cmpG (x y : Co) : Int := if x.f2 < y.f2 then -1 else if x.f2 > y.f2 then 1 else 0
theorem cmpG_neg (x y : Co) : cmpG x y < 0 ↔ x.f2 < y.f2 := by
  unfold cmpG
  split
  · simp [*]
  · split <;> simp [*]
set_option maxHeartbeats 4000000 in
set_option maxRecDepth 100000 in
theorem insertion_conn (fn : Nat) (lb : Array Value) (eg : ∀ args w, (callFunc fn args).run Try.prog w = .ok (.enter fn args) w) (g cap : Nat) (l : List Co) (w : World) (base : Nat) (ok : Nat → Prop)
    (HR : Kd.R k32 32 w base ok (.slice (some ⟨g, 0, none⟩) l.length cap) l) (hl : l.length ≤ 16)
    (hp : ∀ (W : World) (x y : Co), w.grownBy W (some g) → Calls Try.prog fn (#[.agg #[.int .i64 x.f0, .int .i64 x.f1, .int .i64 x.f2, .int .i64 x.f3, .int .i64 x.f4], .agg #[.int .i64 y.f0, .int .i64 y.f1, .int .i64 y.f2, .int .i64 y.f3, .int .i64 y.f4]] ++ lb) W fun e w' => e = .returned (.int .i64 (cmpG x y)) ∧ Below W.heap.size W w') :
    Calls Try.prog 105 #[.slice (some ⟨g, 0, none⟩) l.length cap, .int .i64 0, .int .i64 (l.length : Int), .func (.func fn) #[] lb] w fun e w' => e = .returned (.tuple #[]) ∧ Kd.R k32 32 w' base ok (.slice (some ⟨g, 0, none⟩) l.length cap) (sortG l) ∧ w.grownBy w' (some g) := by
  have hu := Try.underlying32
  have HP := Aside0.mk hp
  have HRA := Aside0.mk HR
  clear hp HR
  generalize hn : l.length = n at *
  have HN := Aside0.mk hn
  clear hn
  go_enter Try.func105, Try.ntmps105
  go_wp2
  go_loopg [8, 9] (n + 1) (fun gg s8 _ wr => ∃ i : Nat, s8 = .int .i64 (i : Int) ∧ 1 ≤ i ∧ (i ≤ n ∨ n = 0 ∧ i = 1) ∧ n + 2 - i ≤ gg + 1 ∧ Aside0 (Kd.R k32 32 wr base ok (.slice (some ⟨g, 0, none⟩) n cap) (sortG (l.take i) ++ l.drop i)) ∧ Aside0 (w.grownBy wr (some g)))
  case atStart =>
    refine ⟨1, rfl, Nat.le_refl _, by omega, by omega, ⟨?_⟩, ⟨⟨rfl, rfl, rfl, Nat.le_refl _, fun _ _ _ => rfl⟩⟩⟩
    have e : sortG (l.take 1) ++ l.drop 1 = l := by
      cases l with
      | nil => rfl
      | cons a r => rfl
    rw [e]
    exact HRA.out
  case round =>
    obtain ⟨i, rfl, hi1, hin, hgg, HO, HG⟩ := hrel
    by_cases hlt : i < n
    · have hltz := dl (show (i : Int) < (n : Int) by omega)
      obtain ⟨x, hx⟩ : ∃ x, l[i]? = some x := ⟨_, List.getElem?_eq_getElem (by have := HN.out; omega)⟩
      have HX := Aside0.mk hx
      obtain ⟨S, hS⟩ : ∃ S, S = sortG (l.take i) := ⟨_, rfl⟩
      have HS := Aside0.mk hS
      have hSl : S.length = i := by rw [hS, sortG_len, List.length_take]; have := HN.out; omega
      have HSA : Aside0 (AscG S) := ⟨by rw [hS]; exact sortG_asc _⟩
      have hd : l.drop i = x :: l.drop (i + 1) := by
        obtain ⟨h0, h1⟩ := List.getElem?_eq_some_iff.1 hx
        rw [List.drop_eq_getElem_cons h0, h1]
      rw [hd, ← hS] at HO
      obtain ⟨R, hR⟩ : ∃ R, R = l.drop (i + 1) := ⟨_, rfl⟩
      have HRr := Aside0.mk hR
      rw [← hR] at HO
      have HSL := Aside0.mk hSl
      clear hx hS hd hR hSl
      go_wp2
      go_loopg [9] i (fun g9 s9 wr => ∃ j : Nat, s9 = .int .i64 (j : Int) ∧ j ≤ i ∧ j ≤ g9 ∧ Aside0 (Kd.R k32 32 wr base ok (.slice (some ⟨g, 0, none⟩) n cap) (S.take j ++ x :: (S.drop j ++ R))) ∧ Aside0 (∀ t (ht : t < S.length), j ≤ t → ¬ S[t].f2 ≤ x.f2) ∧ Aside0 (w.grownBy wr (some g)))
      case atStart => exact ⟨i, rfl, Nat.le_refl _, Nat.le_refl _, ⟨by rw [List.take_of_length_le (by have := HSL.out; omega), List.drop_eq_nil_of_le (by have := HSL.out; omega)]; exact HO.out⟩, ⟨fun t ht hj => by have := HSL.out; omega⟩, HG⟩
      case round =>
        obtain ⟨J, rfl, hji, hg9, HO2, HT, HG2⟩ := hrel
        by_cases hj : 0 < J
        · obtain ⟨j, hJ2⟩ : ∃ j', J = j' + 1 := ⟨J - 1, by omega⟩
          have hjS : j < S.length := by have := HSL.out; omega
          obtain ⟨y, hy0⟩ : ∃ y, S[j] = y := ⟨_, rfl⟩
          obtain ⟨Rj, hRj⟩ : ∃ Rj, Rj = S.drop J ++ R := ⟨_, rfl⟩
          obtain ⟨dk, hdk⟩ : ∃ dk, dk = S.take J ++ x :: Rj := ⟨_, rfl⟩
          rw [← hRj, ← hdk] at HO2
          have hln : dk.length = n := (Kd.R_reads' HO2.out).1.symm
          have hjn : j + 1 < n := by omega
          have hdx : dk[J]? = some x := by rw [hdk, hJ2, List.getElem?_append_right (by rw [List.length_take]; omega), List.length_take, show j + 1 - min (j + 1) S.length = 0 by omega]; rfl
          have hdy : dk[j]? = some y := by rw [hdk, hJ2, List.getElem?_append_left (by rw [List.length_take]; omega), List.getElem?_take, if_pos (by omega), List.getElem?_eq_getElem hjS, hy0]
          have HRj := Aside0.mk hRj
          have HDK := Aside0.mk hdk
          have HY := Aside0.mk hy0
          have HO3 := Aside0.mk (Kd.R_drew HO2.out)
          have HG3 : Aside0 (w.grownBy wr.drew (some g)) := ⟨⟨HG2.out.os, HG2.out.tape, HG2.out.output, HG2.out.size, HG2.out.block⟩⟩
          obtain ⟨ad, e1, h0, h1, h2, h3, h4⟩ := at_T32 (Kd.R_reads' HO3.out).2.2 (J : Int) (by omega) (by omega)
          obtain ⟨ad2, e2, k0, k1, k2, k3, k4⟩ := at_T32 (Kd.R_reads' HO3.out).2.2 (j : Int) (by omega) (by omega)
          simp only [Int.toNat_natCast] at h0 h1 h2 h3 h4 k0 k1 k2 k3 k4
          cases e1
          cases e2
          have hx : rd_T32 dk (J : Int) = x := by
            rw [rdCo_at dk J (by omega)]
            rw [List.getElem?_eq_getElem (by omega)] at hdx
            exact Option.some.inj hdx
          have hy : rd_T32 dk (j : Int) = y := by
            rw [rdCo_at dk j (by omega)]
            rw [List.getElem?_eq_getElem (by omega)] at hdy
            exact Option.some.inj hdy
          rw [hx] at h0 h1 h2 h3 h4
          rw [hy] at k0 k1 k2 k3 k4
          have hadd : ∀ k, (⟨g, 0, none⟩ : Addr).add k = ⟨g, k, none⟩ := fun k => by unfold Addr.add; split <;> simp_all
          simp only [hadd, Nat.zero_add, Nat.add_zero] at h0 h1 h2 h3 h4 k0 k1 k2 k3 k4
          clear hadd hx hy hdx hdy hln hy0 hRj hdk
          have p0 := eq_true (show 0 ≤ (J : Int) by omega)
          have q0 := eq_true (show (J : Int) < (n : Int) by omega)
          have p1 := eq_true (show 0 ≤ (j : Int) by omega)
          have q1 := eq_true (show (j : Int) < (n : Int) by omega)
          have hjz := dl (show (0 : Int) < (J : Int) by omega)
          have hsub : wrap64 ((J : Int) - 1) = (j : Int) := by rw [show (J : Int) - 1 = (j : Int) by omega]; unfold wrap64; omega
          have HJ2 := Aside0.mk hJ2
          clear hJ2
          try go_wp2
          refine start_ (n := 17) (S := fun w' => w'.cell? ⟨g, J * 5, none⟩ = some (.int .i64 x.f0) ∧ w'.cell? ⟨g, J * 5 + 1, none⟩ = some (.int .i64 x.f1) ∧ w'.cell? ⟨g, J * 5 + 2, none⟩ = some (.int .i64 x.f2) ∧ w'.cell? ⟨g, J * 5 + 3, none⟩ = some (.int .i64 x.f3) ∧ w'.cell? ⟨g, J * 5 + 4, none⟩ = some (.int .i64 x.f4) ∧ w'.cell? ⟨g, j * 5, none⟩ = some (.int .i64 y.f0) ∧ w'.cell? ⟨g, j * 5 + 1, none⟩ = some (.int .i64 y.f1) ∧ w'.cell? ⟨g, j * 5 + 2, none⟩ = some (.int .i64 y.f2) ∧ w'.cell? ⟨g, j * 5 + 3, none⟩ = some (.int .i64 y.f3) ∧ w'.cell? ⟨g, j * 5 + 4, none⟩ = some (.int .i64 y.f4)) (ds := [14]) (zt 17 0) (by kernel_rfl) rfl (by kernel_rfl) ⟨h0, h1, h2, h3, h4, k0, k1, k2, k3, k4⟩ (fun hHeld => ?_)
          refine with_tabW isort_tab isort_bits (fun HT_ HW_ => ?_)
          generalize wr.drew = w3 at HO3 HG3 hHeld h0 h1 h2 h3 h4 k0 k1 k2 k3 k4 ⊢
          refine qz HT_ 0 ?_
          refine qz HT_ 1 ?_
          refine qz HT_ 2 ?_
          refine qz HT_ 3 ?_
          refine qz HT_ 4 ?_
          refine qz HT_ 5 ?_
          refine qz HT_ 6 ?_
          refine qz HT_ 7 ?_
          refine qt HT_ HW_ hHeld 8 ?_
          refine qz HT_ 9 ?_
          refine qz HT_ 10 ?_
          refine qz HT_ 11 ?_
          refine qz HT_ 12 ?_
          refine qt HT_ HW_ hHeld 13 ?_
          refine last_ (i := 14) (N := some 32) (zt 17 32767) rfl rfl (one_of HT_.out (by kernel_rfl)) (by decide) (fun K hK => ?_)
          refine call_ fn (#[.agg #[.int .i64 x.f0, .int .i64 x.f1, .int .i64 x.f2, .int .i64 x.f3, .int .i64 x.f4], .agg #[.int .i64 y.f0, .int .i64 y.f1, .int .i64 y.f2, .int .i64 y.f3, .int .i64 y.f4]] ++ lb) rfl rfl (by unfold execOp; simp [resolve, Deferred.ofValue, invoke, Act.eval, eg]) ?_
          refine (HP.out w3 x y HG3.out).mono ?_
          rintro e w4 ⟨rfl, hb4⟩
          refine ⟨_, rfl, ?_⟩
          refine hK.out _ _ ?_
          clear hK K
          replace h0 := (hb4.cell (World.block_lt_of_cell? _ _ h0)).trans h0
          replace h1 := (hb4.cell (World.block_lt_of_cell? _ _ h1)).trans h1
          replace h2 := (hb4.cell (World.block_lt_of_cell? _ _ h2)).trans h2
          replace h3 := (hb4.cell (World.block_lt_of_cell? _ _ h3)).trans h3
          replace h4 := (hb4.cell (World.block_lt_of_cell? _ _ h4)).trans h4
          replace k0 := (hb4.cell (World.block_lt_of_cell? _ _ k0)).trans k0
          replace k1 := (hb4.cell (World.block_lt_of_cell? _ _ k1)).trans k1
          replace k2 := (hb4.cell (World.block_lt_of_cell? _ _ k2)).trans k2
          replace k3 := (hb4.cell (World.block_lt_of_cell? _ _ k3)).trans k3
          replace k4 := (hb4.cell (World.block_lt_of_cell? _ _ k4)).trans k4
          replace HO3 := Aside0.mk (Kd.R_below HO3.out hb4)
          replace HG3 := Aside0.mk (grown_trans HG3.out (grown_below hb4))
          clear hb4 hHeld HO2 HG2
          by_cases hc : x.f2 < y.f2
          · have hcz := dl ((cmpG_neg x y).2 hc)
            have HC := Aside0.mk hc
            clear hc
            refine qz HT_ 15 ?_
            refine qz HT_ 16 ?_
            refine done_ (done_of HT_.out (by kernel_rfl)) ?_
            clear HT_ HW_
            try go_wp2
            replace HO3 := Aside0.mk (Kd.R_drew HO3.out)
            replace HG3 : Aside0 (w.grownBy w4.drew (some g)) := ⟨⟨HG3.out.os, HG3.out.tape, HG3.out.output, HG3.out.size, HG3.out.block⟩⟩
            refine start_ (n := 18) (S := fun w' => w'.cell? ⟨g, J * 5, none⟩ = some (.int .i64 x.f0) ∧ w'.cell? ⟨g, J * 5 + 1, none⟩ = some (.int .i64 x.f1) ∧ w'.cell? ⟨g, J * 5 + 2, none⟩ = some (.int .i64 x.f2) ∧ w'.cell? ⟨g, J * 5 + 3, none⟩ = some (.int .i64 x.f3) ∧ w'.cell? ⟨g, J * 5 + 4, none⟩ = some (.int .i64 x.f4) ∧ w'.cell? ⟨g, j * 5, none⟩ = some (.int .i64 y.f0) ∧ w'.cell? ⟨g, j * 5 + 1, none⟩ = some (.int .i64 y.f1) ∧ w'.cell? ⟨g, j * 5 + 2, none⟩ = some (.int .i64 y.f2) ∧ w'.cell? ⟨g, j * 5 + 3, none⟩ = some (.int .i64 y.f3) ∧ w'.cell? ⟨g, j * 5 + 4, none⟩ = some (.int .i64 y.f4)) (ds := [15, 17]) (zt 18 0) (by kernel_rfl) rfl (by kernel_rfl) ⟨h0, h1, h2, h3, h4, k0, k1, k2, k3, k4⟩ (fun hHeld => ?_)
            refine with_tabW isortX_tab isortX_bits (fun HT_ HW_ => ?_)
            clear h0 h1 h2 h3 h4 k0 k1 k2 k3 k4
            generalize w4.drew = w5 at HO3 HG3 hHeld ⊢
            refine qz HT_ 0 ?_
            refine qz HT_ 1 ?_
            refine qz HT_ 2 ?_
            refine qz HT_ 3 ?_
            refine qz HT_ 4 ?_
            refine qz HT_ 5 ?_
            refine qz HT_ 6 ?_
            refine qz HT_ 7 ?_
            refine qz HT_ 8 ?_
            refine qz HT_ 10 ?_
            refine qz HT_ 11 ?_
            refine qz HT_ 12 ?_
            refine qt HT_ HW_ hHeld 9 ?_
            refine qt HT_ HW_ hHeld 13 ?_
            refine qz HT_ 14 ?_
            clear hHeld
            obtain ⟨ce, hcl, hM, hcc, hfr⟩ := Kd.R_elem HO3.out z32 (J : Int) (by omega) (by omega)
            obtain rfl := k32_openM hM
            have HP2 := Aside0.mk (Kd.R_seg HO3.out (J : Int) (by omega) (by omega) (seg := [.int .i64 y.f0, .int .i64 y.f1, .int .i64 y.f2, .int .i64 y.f3, .int .i64 y.f4]) (j := 0) hcl hcc (show 5 ≤ 5 from by decide) (x' := y) (k32_mkM _ _ _ y) (fun _ hk => hk))
            have hx0 := hcc 0 _ rfl
            simp only [show (k32).sz = 5 from rfl, Nat.mul_one, Nat.add_zero, Int.toNat_natCast] at hx0
            have hf0 := hfr 0
            simp only [show (k32).sz = 5 from rfl, Nat.mul_one, Nat.add_zero, Int.toNat_natCast] at hf0
            have hx1 := hcc 1 _ rfl
            simp only [show (k32).sz = 5 from rfl, Nat.mul_one, Nat.add_zero, Int.toNat_natCast] at hx1
            have hf1 := hfr 1
            simp only [show (k32).sz = 5 from rfl, Nat.mul_one, Nat.add_zero, Int.toNat_natCast] at hf1
            have hx2 := hcc 2 _ rfl
            simp only [show (k32).sz = 5 from rfl, Nat.mul_one, Nat.add_zero, Int.toNat_natCast] at hx2
            have hf2 := hfr 2
            simp only [show (k32).sz = 5 from rfl, Nat.mul_one, Nat.add_zero, Int.toNat_natCast] at hf2
            have hx3 := hcc 3 _ rfl
            simp only [show (k32).sz = 5 from rfl, Nat.mul_one, Nat.add_zero, Int.toNat_natCast] at hx3
            have hf3 := hfr 3
            simp only [show (k32).sz = 5 from rfl, Nat.mul_one, Nat.add_zero, Int.toNat_natCast] at hf3
            have hx4 := hcc 4 _ rfl
            simp only [show (k32).sz = 5 from rfl, Nat.mul_one, Nat.add_zero, Int.toNat_natCast] at hx4
            have hf4 := hfr 4
            simp only [show (k32).sz = 5 from rfl, Nat.mul_one, Nat.add_zero, Int.toNat_natCast] at hf4
            clear hcl hcc hfr hM
            refine last_ (i := 15) (N := none) (zt 18 65535) rfl rfl (one_of HT_.out (by kernel_rfl)) (by decide) (fun K hK => ?_)
            refine skip_ (w1 := (((((w5.setCell ⟨g, J * 5, none⟩ (.int .i64 y.f0)).setCell ⟨g, J * 5 + 1, none⟩ (.int .i64 y.f1)).setCell ⟨g, J * 5 + 2, none⟩ (.int .i64 y.f2)).setCell ⟨g, J * 5 + 3, none⟩ (.int .i64 y.f3)).setCell ⟨g, J * 5 + 4, none⟩ (.int .i64 y.f4))) (by rfl) rfl (by first | (go_simp; done) | (go_simp; rfl)) ?_
            refine hK.out _ _ ?_
            clear hK K
            have HO6 : Aside0 (Kd.R k32 32 (((((w5.setCell ⟨g, J * 5, none⟩ (.int .i64 y.f0)).setCell ⟨g, J * 5 + 1, none⟩ (.int .i64 y.f1)).setCell ⟨g, J * 5 + 2, none⟩ (.int .i64 y.f2)).setCell ⟨g, J * 5 + 3, none⟩ (.int .i64 y.f3)).setCell ⟨g, J * 5 + 4, none⟩ (.int .i64 y.f4)) base ok (.slice (some ⟨g, 0, none⟩) n cap) (dk.set J y)) := ⟨HP2.out.1⟩
            have HG6 : Aside0 (w.grownBy (((((w5.setCell ⟨g, J * 5, none⟩ (.int .i64 y.f0)).setCell ⟨g, J * 5 + 1, none⟩ (.int .i64 y.f1)).setCell ⟨g, J * 5 + 2, none⟩ (.int .i64 y.f2)).setCell ⟨g, J * 5 + 3, none⟩ (.int .i64 y.f3)).setCell ⟨g, J * 5 + 4, none⟩ (.int .i64 y.f4)) (some g)) := ⟨grown_trans HG3.out HP2.out.2⟩
            clear HP2 HO3 HG3 hx0 hf0 hx1 hf1 hx2 hf2 hx3 hf3 hx4 hf4
            generalize (((((w5.setCell ⟨g, J * 5, none⟩ (.int .i64 y.f0)).setCell ⟨g, J * 5 + 1, none⟩ (.int .i64 y.f1)).setCell ⟨g, J * 5 + 2, none⟩ (.int .i64 y.f2)).setCell ⟨g, J * 5 + 3, none⟩ (.int .i64 y.f3)).setCell ⟨g, J * 5 + 4, none⟩ (.int .i64 y.f4)) = w6 at HO6 HG6 ⊢
            refine qz HT_ 16 ?_
            obtain ⟨ce, hcl, hM, hcc, hfr⟩ := Kd.R_elem HO6.out z32 (j : Int) (by omega) (by omega)
            obtain rfl := k32_openM hM
            have HP2 := Aside0.mk (Kd.R_seg HO6.out (j : Int) (by omega) (by omega) (seg := [.int .i64 x.f0, .int .i64 x.f1, .int .i64 x.f2, .int .i64 x.f3, .int .i64 x.f4]) (j := 0) hcl hcc (show 5 ≤ 5 from by decide) (x' := x) (k32_mkM _ _ _ x) (fun _ hk => hk))
            have hx0 := hcc 0 _ rfl
            simp only [show (k32).sz = 5 from rfl, Nat.mul_one, Nat.add_zero, Int.toNat_natCast] at hx0
            have hf0 := hfr 0
            simp only [show (k32).sz = 5 from rfl, Nat.mul_one, Nat.add_zero, Int.toNat_natCast] at hf0
            have hx1 := hcc 1 _ rfl
            simp only [show (k32).sz = 5 from rfl, Nat.mul_one, Nat.add_zero, Int.toNat_natCast] at hx1
            have hf1 := hfr 1
            simp only [show (k32).sz = 5 from rfl, Nat.mul_one, Nat.add_zero, Int.toNat_natCast] at hf1
            have hx2 := hcc 2 _ rfl
            simp only [show (k32).sz = 5 from rfl, Nat.mul_one, Nat.add_zero, Int.toNat_natCast] at hx2
            have hf2 := hfr 2
            simp only [show (k32).sz = 5 from rfl, Nat.mul_one, Nat.add_zero, Int.toNat_natCast] at hf2
            have hx3 := hcc 3 _ rfl
            simp only [show (k32).sz = 5 from rfl, Nat.mul_one, Nat.add_zero, Int.toNat_natCast] at hx3
            have hf3 := hfr 3
            simp only [show (k32).sz = 5 from rfl, Nat.mul_one, Nat.add_zero, Int.toNat_natCast] at hf3
            have hx4 := hcc 4 _ rfl
            simp only [show (k32).sz = 5 from rfl, Nat.mul_one, Nat.add_zero, Int.toNat_natCast] at hx4
            have hf4 := hfr 4
            simp only [show (k32).sz = 5 from rfl, Nat.mul_one, Nat.add_zero, Int.toNat_natCast] at hf4
            clear hcl hcc hfr hM
            refine last_ (i := 17) (N := none) (zt 18 262143) rfl rfl (one_of HT_.out (by kernel_rfl)) (by decide) (fun K hK => ?_)
            refine skip_ (w1 := (((((w6.setCell ⟨g, j * 5, none⟩ (.int .i64 x.f0)).setCell ⟨g, j * 5 + 1, none⟩ (.int .i64 x.f1)).setCell ⟨g, j * 5 + 2, none⟩ (.int .i64 x.f2)).setCell ⟨g, j * 5 + 3, none⟩ (.int .i64 x.f3)).setCell ⟨g, j * 5 + 4, none⟩ (.int .i64 x.f4))) (by rfl) rfl (by first | (go_simp; done) | (go_simp; rfl)) ?_
            refine hK.out _ _ ?_
            clear hK K
            have HO7 : Aside0 (Kd.R k32 32 (((((w6.setCell ⟨g, j * 5, none⟩ (.int .i64 x.f0)).setCell ⟨g, j * 5 + 1, none⟩ (.int .i64 x.f1)).setCell ⟨g, j * 5 + 2, none⟩ (.int .i64 x.f2)).setCell ⟨g, j * 5 + 3, none⟩ (.int .i64 x.f3)).setCell ⟨g, j * 5 + 4, none⟩ (.int .i64 x.f4)) base ok (.slice (some ⟨g, 0, none⟩) n cap) ((dk.set J y).set j x)) := ⟨HP2.out.1⟩
            have HG7 : Aside0 (w.grownBy (((((w6.setCell ⟨g, j * 5, none⟩ (.int .i64 x.f0)).setCell ⟨g, j * 5 + 1, none⟩ (.int .i64 x.f1)).setCell ⟨g, j * 5 + 2, none⟩ (.int .i64 x.f2)).setCell ⟨g, j * 5 + 3, none⟩ (.int .i64 x.f3)).setCell ⟨g, j * 5 + 4, none⟩ (.int .i64 x.f4)) (some g)) := ⟨grown_trans HG6.out HP2.out.2⟩
            clear HP2 HO6 HG6 hx0 hf0 hx1 hf1 hx2 hf2 hx3 hf3 hx4 hf4
            generalize (((((w6.setCell ⟨g, j * 5, none⟩ (.int .i64 x.f0)).setCell ⟨g, j * 5 + 1, none⟩ (.int .i64 x.f1)).setCell ⟨g, j * 5 + 2, none⟩ (.int .i64 x.f2)).setCell ⟨g, j * 5 + 3, none⟩ (.int .i64 x.f3)).setCell ⟨g, j * 5 + 4, none⟩ (.int .i64 x.f4)) = w7 at HO7 HG7 ⊢
            refine done_ (done_of HT_.out (by kernel_rfl)) ?_
            clear HT_ HW_
            try go_wp2
            go_roundg j
            case measure => have := HJ2.out; omega
            case rel => 
              have e3 : (dk.set J y).set j x = S.take j ++ x :: (S.drop j ++ R) := by rw [HDK.out, HJ2.out, ← HY.out, sink_step S Rj x j hjS, List.drop_eq_getElem_cons hjS, HRj.out, HJ2.out]; rfl
              refine ⟨j, congrArg (Value.int .i64) (by have := HJ2.out; omega), by have := HJ2.out; omega, by have := HJ2.out; omega, ⟨?_⟩, ⟨?_⟩, HG7⟩
              · rw [← e3]
                exact HO7.out
              · intro t ht hjt
                by_cases htj : t = j
                · subst htj
                  have := HY.out
                  have h5 := HC.out
                  rw [this]
                  omega
                · exact HT.out t ht (by have := HJ2.out; omega)
          · have hcz := DL (fun h => hc ((cmpG_neg x y).1 h))
            have HC := Aside0.mk hc
            clear hc
            refine qz HT_ 15 ?_
            refine qz HT_ 16 ?_
            refine done_ (done_of HT_.out (by kernel_rfl)) ?_
            clear HT_ HW_
            try go_wp2
            go_roundg (n - i)
            case measure => omega
            case rel =>
              have e4 : sortG (l.take (i + 1)) ++ l.drop (i + 1) = dk := by
                have hil : i < l.length := by have := HN.out; omega
                have hxe : l[i] = x := by have := HX.out; rw [List.getElem?_eq_getElem hil] at this; exact Option.some.inj this
                rw [sortG_snoc l i hil, hxe, ← HS.out, insG_stop HSA.out (j := J) (by have := HSL.out; omega) (fun h0 => by have h5 := HC.out; have h6 := HY.out; simp only [HJ2.out, Nat.add_sub_cancel, h6]; omega) (fun t ht h => by have h7 := HT.out t ht h; omega), ← HRr.out, HDK.out, HRj.out]
                simp
              refine ⟨i + 1, congrArg (Value.int .i64) (by omega), by omega, .inl (by omega), by omega, ⟨?_⟩, HG3⟩
              rw [e4]
              exact HO3.out
        · obtain rfl : J = 0 := by omega
          have HO3 := Aside0.mk (Kd.R_drew HO2.out)
          have HG3 : Aside0 (w.grownBy wr.drew (some g)) := ⟨⟨HG2.out.os, HG2.out.tape, HG2.out.output, HG2.out.size, HG2.out.block⟩⟩
          try go_wp2
          refine start_ (n := 17) (S := fun _ => True) (ds := []) (zt 17 0) (by kernel_rfl) rfl (by kernel_rfl) trivial (fun hHeld => ?_)
          refine with_tabW isort_tab isort_bits (fun HT_ HW_ => ?_)
          generalize wr.drew = w3 at HO3 HG3 hHeld ⊢
          refine qz HT_ 0 ?_
          refine qz HT_ 1 ?_
          refine qz HT_ 2 ?_
          refine qz HT_ 3 ?_
          refine qn HT_ 4 ?_
          refine qn HT_ 5 ?_
          refine qn HT_ 6 ?_
          refine qn HT_ 7 ?_
          refine qn HT_ 8 ?_
          refine qn HT_ 9 ?_
          refine qn HT_ 10 ?_
          refine qn HT_ 11 ?_
          refine qn HT_ 12 ?_
          refine qn HT_ 13 ?_
          refine qn HT_ 14 ?_
          refine qn HT_ 15 ?_
          refine qz HT_ 16 ?_
          refine done_ (done_of HT_.out (by kernel_rfl)) ?_
          try go_wp2
          go_roundg (n - i)
          case measure => omega
          case rel =>
            have e4 : sortG (l.take (i + 1)) ++ l.drop (i + 1) = S.take 0 ++ x :: (S.drop 0 ++ R) := by
              have hil : i < l.length := by have := HN.out; omega
              have hxe : l[i] = x := by have := HX.out; rw [List.getElem?_eq_getElem hil] at this; exact Option.some.inj this
              rw [sortG_snoc l i hil, hxe, ← HS.out, insG_stop HSA.out (j := 0) (Nat.zero_le _) (fun h0 => absurd h0 (Nat.lt_irrefl _)) (fun t ht h => by have h7 := HT.out t ht h; omega), ← HRr.out]
              simp
            refine ⟨i + 1, congrArg (Value.int .i64) (by omega), by omega, .inl (by omega), by omega, ⟨?_⟩, HG3⟩
            rw [e4]
            exact HO3.out
    · have hltz := DL (show ¬ (i : Int) < (n : Int) by omega)
      go_wp2
      try simp only [Exit.inBlock, Exit.then]
      refine bodyPost_end (results_none rfl _ _ _) rfl ?_
      refine ⟨rfl, ?_, HG.out⟩
      have h1 := HN.out
      have h2 := HO.out
      rw [List.take_of_length_le (by omega), List.drop_eq_nil_of_le (by omega), List.append_nil] at h2
      exact h2
set_option maxHeartbeats 2000000 in
theorem insertion_nil (fn : Nat) (lb : Array Value) (A : Option Addr) (cap : Nat) (w : World) :
    Calls Try.prog 105 #[.slice A 0 cap, .int .i64 0, .int .i64 0, .func (.func fn) #[] lb] w fun e w' => e = .returned (.tuple #[]) ∧ w' = w := by
  go_enter Try.func105, Try.ntmps105
  go_wp2
  go_loopg [8, 9] 1 (fun gg s8 _ wr => s8 = .int .i64 1 ∧ wr = w)
  case atStart => exact ⟨rfl, rfl⟩
  case round =>
    obtain ⟨rfl, rfl⟩ := hrel
    go_wp2
    try simp only [Exit.inBlock, Exit.then]
    refine bodyPost_end (results_none rfl _ _ _) rfl ?_
    exact ⟨rfl, rfl⟩
theorem insertion_any (fn : Nat) (lb : Array Value) (eg : ∀ args w, (callFunc fn args).run Try.prog w = .ok (.enter fn args) w) (A : Option Addr) (cap : Nat) (l : List Co) (w : World) (base : Nat) (ok : Nat → Prop)
    (HR : Kd.R k32 32 w base ok (.slice A l.length cap) l) (hl : l.length ≤ 16)
    (hp : ∀ (W : World) (x y : Co), w.grownBy W ((.slice A l.length cap : Value).ownBlock) → Calls Try.prog fn (#[.agg #[.int .i64 x.f0, .int .i64 x.f1, .int .i64 x.f2, .int .i64 x.f3, .int .i64 x.f4], .agg #[.int .i64 y.f0, .int .i64 y.f1, .int .i64 y.f2, .int .i64 y.f3, .int .i64 y.f4]] ++ lb) W fun e w' => e = .returned (.int .i64 (cmpG x y)) ∧ Below W.heap.size W w') :
    Calls Try.prog 105 #[.slice A l.length cap, .int .i64 0, .int .i64 (l.length : Int), .func (.func fn) #[] lb] w fun e w' => e = .returned (.tuple #[]) ∧ Kd.R k32 32 w' base ok (.slice A l.length cap) (sortG l) ∧ w.grownBy w' ((.slice A l.length cap : Value).ownBlock) := by
  cases l with
  | nil =>
    refine (insertion_nil fn lb A cap w).mono ?_
    rintro e w' ⟨rfl, rfl⟩
    exact ⟨rfl, HR, ⟨rfl, rfl, rfl, Nat.le_refl _, fun _ _ _ => rfl⟩⟩
  | cons a r =>
    obtain ⟨g, cap', hv, hbase, hglt, cells0, hcells0⟩ := Kd.R_form HR (by simp)
    simp only [Value.slice.injEq, true_and] at hv
    obtain ⟨rfl, rfl⟩ := hv
    exact insertion_conn fn lb eg g cap (a :: r) w base ok HR hl hp
set_option maxHeartbeats 2000000 in
theorem stable_conn (fn : Nat) (lb : Array Value) (eg : ∀ args w, (callFunc fn args).run Try.prog w = .ok (.enter fn args) w) (A : Option Addr) (cap : Nat) (l : List Co) (w : World) (base : Nat) (ok : Nat → Prop)
    (HR : Kd.R k32 32 w base ok (.slice A l.length cap) l) (hl : l.length ≤ 16)
    (hp : ∀ (W : World) (x y : Co), w.grownBy W ((.slice A l.length cap : Value).ownBlock) → Calls Try.prog fn (#[.agg #[.int .i64 x.f0, .int .i64 x.f1, .int .i64 x.f2, .int .i64 x.f3, .int .i64 x.f4], .agg #[.int .i64 y.f0, .int .i64 y.f1, .int .i64 y.f2, .int .i64 y.f3, .int .i64 y.f4]] ++ lb) W fun e w' => e = .returned (.int .i64 (cmpG x y)) ∧ Below W.heap.size W w') :
    Calls Try.prog 97 #[.slice A l.length cap, .int .i64 (l.length : Int), .func (.func fn) #[] lb] w fun e w' => e = .returned (.tuple #[]) ∧ Kd.R k32 32 w' base ok (.slice A l.length cap) (sortG l) ∧ w.grownBy w' ((.slice A l.length cap : Value).ownBlock) := by
  have HC := Aside0.mk (insertion_any fn lb eg A cap l w base ok HR hl hp)
  clear HR hp eg
  generalize l.length = n at *
  have h1 := DE (show ¬ (20 : Int) ≤ (n : Int) by omega)
  have h2 := DL (show ¬ (20 : Int) < (n : Int) by omega)
  go_enter Try.func97, Try.ntmps97
  go_wp2
  go_loopg [7, 8] 1 (fun gg s7 s8 wr => s7 = .int .i64 0 ∧ s8 = .int .i64 20 ∧ wr = w)
  case atStart => exact ⟨rfl, rfl, rfl⟩
  case round =>
    obtain ⟨rfl, rfl, rfl⟩ := hrel
    go_wp2_with (go_at_call 105; refine HC.out.mono ?_; rintro e w1 ⟨rfl, h3, h4⟩)
    go_loopg [6, 7, 8, 9] 1 (fun gg s6 _ _ _ w2 => s6 = .int .i64 20 ∧ w2 = w1)
    case atStart => exact ⟨rfl, rfl⟩
    case round =>
      obtain ⟨rfl, rfl⟩ := hrel
      go_wp2
      try simp only [Exit.inBlock, Exit.then]
      refine bodyPost_end (results_none rfl _ _ _) rfl ?_
      exact ⟨rfl, h3, h4⟩
set_option maxHeartbeats 2000000 in
theorem sortStable_conn (fn : Nat) (lb : Array Value) (eg : ∀ args w, (callFunc fn args).run Try.prog w = .ok (.enter fn args) w) (A : Option Addr) (cap : Nat) (l : List Co) (w : World) (base : Nat) (ok : Nat → Prop)
    (HR : Kd.R k32 32 w base ok (.slice A l.length cap) l) (hl : l.length ≤ 16)
    (hp : ∀ (W : World) (x y : Co), w.grownBy W ((.slice A l.length cap : Value).ownBlock) → Calls Try.prog fn (#[.agg #[.int .i64 x.f0, .int .i64 x.f1, .int .i64 x.f2, .int .i64 x.f3, .int .i64 x.f4], .agg #[.int .i64 y.f0, .int .i64 y.f1, .int .i64 y.f2, .int .i64 y.f3, .int .i64 y.f4]] ++ lb) W fun e w' => e = .returned (.int .i64 (cmpG x y)) ∧ Below W.heap.size W w') :
    Calls Try.prog 81 #[.slice A l.length cap, .func (.func fn) #[] lb] w fun e w' => e = .returned (.tuple #[]) ∧ Kd.R k32 32 w' base ok (.slice A l.length cap) (sortG l) ∧ w.grownBy w' ((.slice A l.length cap : Value).ownBlock) := by
  have HC := Aside0.mk (stable_conn fn lb eg A cap l w base ok HR hl hp)
  clear HR hp eg
  generalize l.length = n at *
  go_enter Try.func81, Try.ntmps81
  go_wp2_with (go_at_call 97; refine HC.out.mono ?_; rintro e w1 ⟨rfl, h3, h4⟩)
  try simp only [Exit.inBlock, Exit.then]
  refine bodyPost_end (results_none rfl _ _ _) rfl ?_
  exact ⟨rfl, h3, h4⟩
end Go.Proofs.Ytcklifkbodmoaaa.P
