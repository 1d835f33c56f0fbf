/- Contracts of functions of package slices at steps, by hand: insertionSortCmpFunc, pdqsortCmpFunc, SortFunc (of a few), Reverse, Clone, ContainsFunc. -/
import Derived.Test.YtcklifkbodmoaaaHUp
import Derived.Test.YtcklifkbodmoaaaGPBase
import Derived.Test.YtcklifkbodmoaaaMInsS
import Derived.Test.YtcklifkbodmoaaaPFImplProfile1
import Derived.Test.YtcklifkbodmoaaaPFImplStairof1
import Derived.Test.YtcklifkbodmoaaaMPlanOk
import Derived.Lib.LazyBuf
set_option linter.unusedVariables false
set_option linter.unusedSimpArgs false
namespace Go.Proofs.Ytcklifkbodmoaaa.P
open Go.RowKit Go.Proofs.YtcklifkbodmoaaaV.PrintWords Go.Proofs.YtcklifkbodmoaaaV.PrintLast Go.Proofs.YtcklifkbodmoaaaV.PrintMore Go.Proofs.Ytcklifkbodmoaaa.M
theorem grown_transS {a b c : World} {r : Option Nat} (h : a.grownBy b r) (k : b.grownBy c r) : a.grownBy c r :=
  ⟨k.os.trans h.os, k.tape.trans h.tape, k.output.trans h.output, Nat.le_trans h.size k.size, fun i hi hne => (k.block i (Nat.lt_of_lt_of_le hi h.size) hne).trans (h.block i hi hne)⟩
theorem grown_belowS {a b : World} {r : Option Nat} (h : Below a.heap.size a b) : a.grownBy b r := ⟨h.os, h.tape, h.output, h.size, fun i hi _ => h.block i hi⟩
def jsort_T : Bool × List (List Nat × List Nat) := (true, [([], []), ([], []), ([0, 1], [0, 1]), ([2], [2]), ([3], [3]), ([3], [3]), ([3], [3]), ([5, 6, 3], [3, 5, 6]), ([7, 3], [3, 7]), ([3], [3]), ([3], [3]), ([10, 3], [3, 10]), ([9, 11, 3], [3, 9, 11]), ([12, 3], [3, 12]), ([4, 8, 13, 3, 3], [3, 4, 8, 13]), ([14, 3], [3, 14]), ([3, 15], [3, 15])])
def jsort_B : List Nat := [0, 0, 3, 7, 15, 15, 15, 111, 239, 15, 15, 1039, 3599, 7695, 16383, 32767, 65535]
theorem jsort_tab : rtab .any (opsOf Try.f120 4) = jsort_T := by kernel_rfl
theorem jsort_bits : waitsOk jsort_T.2 jsort_B = true := by kernel_rfl
def jsortX_T : Bool × List (List Nat × List Nat) := (true, [([], []), ([], []), ([], []), ([], []), ([3], [3]), ([], []), ([], []), ([6], [6]), ([5, 7], [5, 7]), ([8], [8]), ([], []), ([], []), ([10, 11], [10, 11]), ([12], [12]), ([0, 1, 0, 1, 5, 6, 7, 8, 9, 13], [0, 1]), ([14, 9, 0, 1, 5, 6, 7, 8, 9, 13], [9, 14]), ([2, 4, 0, 1, 2, 3, 4, 5, 6, 7, 8, 9, 10, 11, 12, 13, 14, 15], [2, 4]), ([16, 13, 15, 0, 1, 2, 3, 4, 5, 6, 7, 8, 9, 10, 11, 12, 13, 14, 15], [13, 16])])
def jsortX_B : List Nat := [0, 0, 0, 0, 8, 0, 0, 64, 224, 480, 0, 0, 3072, 7168, 16355, 32739, 65535, 131071]
theorem jsortX_tab : rtab .any (opsOf Try.f120 6) = jsortX_T := by kernel_rfl
theorem jsortX_bits : waitsOk jsortX_T.2 jsortX_B = true := by kernel_rfl
set_option maxHeartbeats 4000000 in
set_option maxRecDepth 100000 in
theorem insertion_step (fn : Nat) (lb : Array Value) (eg : ∀ args w, (callFunc fn args).run Try.prog w = .ok (.enter fn args) w) (g cap : Nat) (l : List Stp) (w : World) (base : Nat) (ok : Nat → Prop)
    (HR : Kd.R k66 66 w base ok (.slice (some ⟨g, 0, none⟩) l.length cap) l) (hl : l.length ≤ 12)
    (hp : ∀ (W : World) (x y : Stp), w.grownBy W (some g) → Calls Try.prog fn (#[.agg #[.int .i64 x.f0, .int .i64 x.f1], .agg #[.int .i64 y.f0, .int .i64 y.f1]] ++ lb) W fun e w' => e = .returned (.int .i64 (cmpS x y)) ∧ Below W.heap.size W w') :
    Calls Try.prog 120 #[.slice (some ⟨g, 0, none⟩) l.length cap, .int .i64 0, .int .i64 (l.length : Int), .func (.func fn) #[] lb] w fun e w' => e = .returned (.tuple #[]) ∧ Kd.R k66 66 w' base ok (.slice (some ⟨g, 0, none⟩) l.length cap) (sortS l) ∧ w.grownBy w' (some g) := by
  have hu := Try.underlying66
  have HP := Aside0.mk hp
  have HRA := Aside0.mk HR
  clear hp HR
  generalize hn : l.length = n at *
  have HN := Aside0.mk hn
  clear hn
  go_enter Try.func120, Try.ntmps120
  go_wp2
  go_loopg [8, 9] (n + 1) (fun gg s8 _ wr => ∃ i : Nat, s8 = .int .i64 (i : Int) ∧ 1 ≤ i ∧ (i ≤ n ∨ n = 0 ∧ i = 1) ∧ n + 2 - i ≤ gg + 1 ∧ Aside0 (Kd.R k66 66 wr base ok (.slice (some ⟨g, 0, none⟩) n cap) (sortS (l.take i) ++ l.drop i)) ∧ Aside0 (w.grownBy wr (some g)))
  case atStart =>
    refine ⟨1, rfl, Nat.le_refl _, by omega, by omega, ⟨?_⟩, ⟨⟨rfl, rfl, rfl, Nat.le_refl _, fun _ _ _ => rfl⟩⟩⟩
    have e : sortS (l.take 1) ++ l.drop 1 = l := by
      cases l with
      | nil => rfl
      | cons a r => rfl
    rw [e]
    exact HRA.out
  case round =>
    obtain ⟨i, rfl, hi1, hin, hgg, HO, HG⟩ := hrel
    by_cases hlt : i < n
    · have hltz := dl (show (i : Int) < (n : Int) by omega)
      obtain ⟨x, hx⟩ : ∃ x, l[i]? = some x := ⟨_, List.getElem?_eq_getElem (by have := HN.out; omega)⟩
      have HX := Aside0.mk hx
      obtain ⟨S, hS⟩ : ∃ S, S = sortS (l.take i) := ⟨_, rfl⟩
      have HS := Aside0.mk hS
      have hSl : S.length = i := by rw [hS, sortS_len, List.length_take]; have := HN.out; omega
      have HSA : Aside0 (AscS S) := ⟨by rw [hS]; exact sortS_asc _⟩
      have hd : l.drop i = x :: l.drop (i + 1) := by
        obtain ⟨h0, h1⟩ := List.getElem?_eq_some_iff.1 hx
        rw [List.drop_eq_getElem_cons h0, h1]
      rw [hd, ← hS] at HO
      obtain ⟨R, hR⟩ : ∃ R, R = l.drop (i + 1) := ⟨_, rfl⟩
      have HRr := Aside0.mk hR
      rw [← hR] at HO
      have HSL := Aside0.mk hSl
      clear hx hS hd hR hSl
      go_wp2
      go_loopg [9] i (fun g9 s9 wr => ∃ j : Nat, s9 = .int .i64 (j : Int) ∧ j ≤ i ∧ j ≤ g9 ∧ Aside0 (Kd.R k66 66 wr base ok (.slice (some ⟨g, 0, none⟩) n cap) (S.take j ++ x :: (S.drop j ++ R))) ∧ Aside0 (∀ t (ht : t < S.length), j ≤ t → ltS x S[t]) ∧ Aside0 (w.grownBy wr (some g)))
      case atStart => exact ⟨i, rfl, Nat.le_refl _, Nat.le_refl _, ⟨by rw [List.take_of_length_le (by have := HSL.out; omega), List.drop_eq_nil_of_le (by have := HSL.out; omega)]; exact HO.out⟩, ⟨fun t ht hj => by have := HSL.out; omega⟩, HG⟩
      case round =>
        obtain ⟨J, rfl, hji, hg9, HO2, HT, HG2⟩ := hrel
        by_cases hj : 0 < J
        · obtain ⟨j, hJ2⟩ : ∃ j', J = j' + 1 := ⟨J - 1, by omega⟩
          have hjS : j < S.length := by have := HSL.out; omega
          obtain ⟨y, hy0⟩ : ∃ y, S[j] = y := ⟨_, rfl⟩
          obtain ⟨Rj, hRj⟩ : ∃ Rj, Rj = S.drop J ++ R := ⟨_, rfl⟩
          obtain ⟨dk, hdk⟩ : ∃ dk, dk = S.take J ++ x :: Rj := ⟨_, rfl⟩
          rw [← hRj, ← hdk] at HO2
          have hln : dk.length = n := (Kd.R_reads' HO2.out).1.symm
          have hjn : j + 1 < n := by omega
          have hdx : dk[J]? = some x := by rw [hdk, hJ2, List.getElem?_append_right (by rw [List.length_take]; omega), List.length_take, show j + 1 - min (j + 1) S.length = 0 by omega]; rfl
          have hdy : dk[j]? = some y := by rw [hdk, hJ2, List.getElem?_append_left (by rw [List.length_take]; omega), List.getElem?_take, if_pos (by omega), List.getElem?_eq_getElem hjS, hy0]
          have HRj := Aside0.mk hRj
          have HDK := Aside0.mk hdk
          have HY := Aside0.mk hy0
          have HO3 := Aside0.mk (Kd.R_drew HO2.out)
          have HG3 : Aside0 (w.grownBy wr.drew (some g)) := ⟨⟨HG2.out.os, HG2.out.tape, HG2.out.output, HG2.out.size, HG2.out.block⟩⟩
          obtain ⟨ad, e1, h0, h1⟩ := at_T66 (Kd.R_reads' HO3.out).2.2 (J : Int) (by omega) (by omega)
          obtain ⟨ad2, e2, k0, k1⟩ := at_T66 (Kd.R_reads' HO3.out).2.2 (j : Int) (by omega) (by omega)
          simp only [Int.toNat_natCast] at h0 h1 k0 k1
          cases e1
          cases e2
          have hx : rd_T66 dk (J : Int) = x := by
            rw [rdSt_at dk J (by omega)]
            rw [List.getElem?_eq_getElem (by omega)] at hdx
            exact Option.some.inj hdx
          have hy : rd_T66 dk (j : Int) = y := by
            rw [rdSt_at dk j (by omega)]
            rw [List.getElem?_eq_getElem (by omega)] at hdy
            exact Option.some.inj hdy
          rw [hx] at h0 h1
          rw [hy] at k0 k1
          have hadd : ∀ k, (⟨g, 0, none⟩ : Addr).add k = ⟨g, k, none⟩ := fun k => by unfold Addr.add; split <;> simp_all
          simp only [hadd, Nat.zero_add, Nat.add_zero] at h0 h1 k0 k1
          clear hadd hx hy hdx hdy hln hy0 hRj hdk
          have p0 := eq_true (show 0 ≤ (J : Int) by omega)
          have q0 := eq_true (show (J : Int) < (n : Int) by omega)
          have p1 := eq_true (show 0 ≤ (j : Int) by omega)
          have q1 := eq_true (show (j : Int) < (n : Int) by omega)
          have hjz := dl (show (0 : Int) < (J : Int) by omega)
          have hsub : wrap64 ((J : Int) - 1) = (j : Int) := by rw [show (J : Int) - 1 = (j : Int) by omega]; unfold wrap64; omega
          have HJ2 := Aside0.mk hJ2
          clear hJ2
          try go_wp2
          refine start_ (n := 17) (S := fun w' => w'.cell? ⟨g, J * 2, none⟩ = some (.int .i64 x.f0) ∧ w'.cell? ⟨g, J * 2 + 1, none⟩ = some (.int .i64 x.f1) ∧ w'.cell? ⟨g, j * 2, none⟩ = some (.int .i64 y.f0) ∧ w'.cell? ⟨g, j * 2 + 1, none⟩ = some (.int .i64 y.f1)) (ds := [14]) (zt 17 0) (by kernel_rfl) rfl (by kernel_rfl) ⟨h0, h1, k0, k1⟩ (fun hHeld => ?_)
          refine with_tabW jsort_tab jsort_bits (fun HT_ HW_ => ?_)
          generalize wr.drew = w3 at HO3 HG3 hHeld h0 h1 k0 k1 ⊢
          refine qz HT_ 0 ?_
          refine qz HT_ 1 ?_
          refine qz HT_ 2 ?_
          refine qz HT_ 3 ?_
          refine qz HT_ 4 ?_
          refine qz HT_ 5 ?_
          refine qz HT_ 6 ?_
          refine qz HT_ 7 ?_
          refine qt HT_ HW_ hHeld 8 ?_
          refine qz HT_ 9 ?_
          refine qz HT_ 10 ?_
          refine qz HT_ 11 ?_
          refine qz HT_ 12 ?_
          refine qt HT_ HW_ hHeld 13 ?_
          refine last_ (i := 14) (N := some 32) (zt 17 32767) rfl rfl (one_of HT_.out (by kernel_rfl)) (by decide) (fun K hK => ?_)
          refine call_ fn (#[.agg #[.int .i64 x.f0, .int .i64 x.f1], .agg #[.int .i64 y.f0, .int .i64 y.f1]] ++ lb) rfl rfl (by unfold execOp; simp [resolve, Deferred.ofValue, invoke, Act.eval, eg]) ?_
          refine (HP.out w3 x y HG3.out).mono ?_
          rintro e w4 ⟨rfl, hb4⟩
          refine ⟨_, rfl, ?_⟩
          refine hK.out _ _ ?_
          clear hK K
          replace h0 := (hb4.cell (World.block_lt_of_cell? _ _ h0)).trans h0
          replace h1 := (hb4.cell (World.block_lt_of_cell? _ _ h1)).trans h1
          replace k0 := (hb4.cell (World.block_lt_of_cell? _ _ k0)).trans k0
          replace k1 := (hb4.cell (World.block_lt_of_cell? _ _ k1)).trans k1
          replace HO3 := Aside0.mk (Kd.R_below HO3.out hb4)
          replace HG3 := Aside0.mk (grown_transS HG3.out (grown_belowS hb4))
          clear hb4 hHeld HO2 HG2
          by_cases hc : ltS x y
          · have hcz := dl ((cmpS_neg x y).2 hc)
            have HC := Aside0.mk hc
            clear hc
            refine qz HT_ 15 ?_
            refine qz HT_ 16 ?_
            refine done_ (done_of HT_.out (by kernel_rfl)) ?_
            clear HT_ HW_
            try go_wp2
            replace HO3 := Aside0.mk (Kd.R_drew HO3.out)
            replace HG3 : Aside0 (w.grownBy w4.drew (some g)) := ⟨⟨HG3.out.os, HG3.out.tape, HG3.out.output, HG3.out.size, HG3.out.block⟩⟩
            refine start_ (n := 18) (S := fun w' => w'.cell? ⟨g, J * 2, none⟩ = some (.int .i64 x.f0) ∧ w'.cell? ⟨g, J * 2 + 1, none⟩ = some (.int .i64 x.f1) ∧ w'.cell? ⟨g, j * 2, none⟩ = some (.int .i64 y.f0) ∧ w'.cell? ⟨g, j * 2 + 1, none⟩ = some (.int .i64 y.f1)) (ds := [15, 17]) (zt 18 0) (by kernel_rfl) rfl (by kernel_rfl) ⟨h0, h1, k0, k1⟩ (fun hHeld => ?_)
            refine with_tabW jsortX_tab jsortX_bits (fun HT_ HW_ => ?_)
            clear h0 h1 k0 k1
            generalize w4.drew = w5 at HO3 HG3 hHeld ⊢
            refine qz HT_ 0 ?_
            refine qz HT_ 1 ?_
            refine qz HT_ 2 ?_
            refine qz HT_ 3 ?_
            refine qz HT_ 4 ?_
            refine qz HT_ 5 ?_
            refine qz HT_ 6 ?_
            refine qz HT_ 7 ?_
            refine qz HT_ 8 ?_
            refine qz HT_ 10 ?_
            refine qz HT_ 11 ?_
            refine qz HT_ 12 ?_
            refine qt HT_ HW_ hHeld 9 ?_
            refine qt HT_ HW_ hHeld 13 ?_
            refine qz HT_ 14 ?_
            clear hHeld
            obtain ⟨ce, hcl, hM, hcc, hfr⟩ := Kd.R_elem HO3.out z66 (J : Int) (by omega) (by omega)
            obtain rfl := k66_openM hM
            have HP2 := Aside0.mk (Kd.R_seg HO3.out (J : Int) (by omega) (by omega) (seg := [.int .i64 y.f0, .int .i64 y.f1]) (j := 0) hcl hcc (show 2 ≤ 2 from by decide) (x' := y) (k66_mkM _ _ _ y) (fun _ hk => hk))
            have hx0 := hcc 0 _ rfl
            simp only [show (k66).sz = 2 from rfl, Nat.mul_one, Nat.add_zero, Int.toNat_natCast] at hx0
            have hf0 := hfr 0
            simp only [show (k66).sz = 2 from rfl, Nat.mul_one, Nat.add_zero, Int.toNat_natCast] at hf0
            have hx1 := hcc 1 _ rfl
            simp only [show (k66).sz = 2 from rfl, Nat.mul_one, Nat.add_zero, Int.toNat_natCast] at hx1
            have hf1 := hfr 1
            simp only [show (k66).sz = 2 from rfl, Nat.mul_one, Nat.add_zero, Int.toNat_natCast] at hf1
            clear hcl hcc hfr hM
            refine last_ (i := 15) (N := none) (zt 18 65535) rfl rfl (one_of HT_.out (by kernel_rfl)) (by decide) (fun K hK => ?_)
            refine skip_ (w1 := ((w5.setCell ⟨g, J * 2, none⟩ (.int .i64 y.f0)).setCell ⟨g, J * 2 + 1, none⟩ (.int .i64 y.f1))) (by rfl) rfl (by first | (go_simp; done) | (go_simp; rfl)) ?_
            refine hK.out _ _ ?_
            clear hK K
            have HO6 : Aside0 (Kd.R k66 66 ((w5.setCell ⟨g, J * 2, none⟩ (.int .i64 y.f0)).setCell ⟨g, J * 2 + 1, none⟩ (.int .i64 y.f1)) base ok (.slice (some ⟨g, 0, none⟩) n cap) (dk.set J y)) := ⟨HP2.out.1⟩
            have HG6 : Aside0 (w.grownBy ((w5.setCell ⟨g, J * 2, none⟩ (.int .i64 y.f0)).setCell ⟨g, J * 2 + 1, none⟩ (.int .i64 y.f1)) (some g)) := ⟨grown_transS HG3.out HP2.out.2⟩
            clear HP2 HO3 HG3 hx0 hf0 hx1 hf1
            generalize ((w5.setCell ⟨g, J * 2, none⟩ (.int .i64 y.f0)).setCell ⟨g, J * 2 + 1, none⟩ (.int .i64 y.f1)) = w6 at HO6 HG6 ⊢
            refine qz HT_ 16 ?_
            obtain ⟨ce, hcl, hM, hcc, hfr⟩ := Kd.R_elem HO6.out z66 (j : Int) (by omega) (by omega)
            obtain rfl := k66_openM hM
            have HP2 := Aside0.mk (Kd.R_seg HO6.out (j : Int) (by omega) (by omega) (seg := [.int .i64 x.f0, .int .i64 x.f1]) (j := 0) hcl hcc (show 2 ≤ 2 from by decide) (x' := x) (k66_mkM _ _ _ x) (fun _ hk => hk))
            have hx0 := hcc 0 _ rfl
            simp only [show (k66).sz = 2 from rfl, Nat.mul_one, Nat.add_zero, Int.toNat_natCast] at hx0
            have hf0 := hfr 0
            simp only [show (k66).sz = 2 from rfl, Nat.mul_one, Nat.add_zero, Int.toNat_natCast] at hf0
            have hx1 := hcc 1 _ rfl
            simp only [show (k66).sz = 2 from rfl, Nat.mul_one, Nat.add_zero, Int.toNat_natCast] at hx1
            have hf1 := hfr 1
            simp only [show (k66).sz = 2 from rfl, Nat.mul_one, Nat.add_zero, Int.toNat_natCast] at hf1
            clear hcl hcc hfr hM
            refine last_ (i := 17) (N := none) (zt 18 262143) rfl rfl (one_of HT_.out (by kernel_rfl)) (by decide) (fun K hK => ?_)
            refine skip_ (w1 := ((w6.setCell ⟨g, j * 2, none⟩ (.int .i64 x.f0)).setCell ⟨g, j * 2 + 1, none⟩ (.int .i64 x.f1))) (by rfl) rfl (by first | (go_simp; done) | (go_simp; rfl)) ?_
            refine hK.out _ _ ?_
            clear hK K
            have HO7 : Aside0 (Kd.R k66 66 ((w6.setCell ⟨g, j * 2, none⟩ (.int .i64 x.f0)).setCell ⟨g, j * 2 + 1, none⟩ (.int .i64 x.f1)) base ok (.slice (some ⟨g, 0, none⟩) n cap) ((dk.set J y).set j x)) := ⟨HP2.out.1⟩
            have HG7 : Aside0 (w.grownBy ((w6.setCell ⟨g, j * 2, none⟩ (.int .i64 x.f0)).setCell ⟨g, j * 2 + 1, none⟩ (.int .i64 x.f1)) (some g)) := ⟨grown_transS HG6.out HP2.out.2⟩
            clear HP2 HO6 HG6 hx0 hf0 hx1 hf1
            generalize ((w6.setCell ⟨g, j * 2, none⟩ (.int .i64 x.f0)).setCell ⟨g, j * 2 + 1, none⟩ (.int .i64 x.f1)) = w7 at HO7 HG7 ⊢
            refine done_ (done_of HT_.out (by kernel_rfl)) ?_
            clear HT_ HW_
            try go_wp2
            go_roundg j
            case measure => have := HJ2.out; omega
            case rel => 
              have e3 : (dk.set J y).set j x = S.take j ++ x :: (S.drop j ++ R) := by rw [HDK.out, HJ2.out, ← HY.out, sink_stepS S Rj x j hjS, List.drop_eq_getElem_cons hjS, HRj.out, HJ2.out]; rfl
              refine ⟨j, congrArg (Value.int .i64) (by have := HJ2.out; omega), by have := HJ2.out; omega, by have := HJ2.out; omega, ⟨?_⟩, ⟨?_⟩, HG7⟩
              · rw [← e3]
                exact HO7.out
              · intro t ht hjt
                by_cases htj : t = j
                · subst htj
                  have := HY.out
                  have h5 := HC.out
                  rw [this]
                  exact h5
                · exact HT.out t ht (by have := HJ2.out; omega)
          · have hcz := DL (fun h => hc ((cmpS_neg x y).1 h))
            have HC := Aside0.mk hc
            clear hc
            refine qz HT_ 15 ?_
            refine qz HT_ 16 ?_
            refine done_ (done_of HT_.out (by kernel_rfl)) ?_
            clear HT_ HW_
            try go_wp2
            go_roundg (n - i)
            case measure => omega
            case rel =>
              have e4 : sortS (l.take (i + 1)) ++ l.drop (i + 1) = dk := by
                have hil : i < l.length := by have := HN.out; omega
                have hxe : l[i] = x := by have := HX.out; rw [List.getElem?_eq_getElem hil] at this; exact Option.some.inj this
                rw [sortS_snoc l i hil, hxe, ← HS.out, insS_stop HSA.out (j := J) (by have := HSL.out; omega) (fun h0 => by have h5 := HC.out; have h6 := HY.out; simp only [HJ2.out, Nat.add_sub_cancel, h6]; exact h5) (fun t ht h => HT.out t ht h), ← HRr.out, HDK.out, HRj.out]
                simp
              refine ⟨i + 1, congrArg (Value.int .i64) (by omega), by omega, .inl (by omega), by omega, ⟨?_⟩, HG3⟩
              rw [e4]
              exact HO3.out
        · obtain rfl : J = 0 := by omega
          have HO3 := Aside0.mk (Kd.R_drew HO2.out)
          have HG3 : Aside0 (w.grownBy wr.drew (some g)) := ⟨⟨HG2.out.os, HG2.out.tape, HG2.out.output, HG2.out.size, HG2.out.block⟩⟩
          try go_wp2
          refine start_ (n := 17) (S := fun _ => True) (ds := []) (zt 17 0) (by kernel_rfl) rfl (by kernel_rfl) trivial (fun hHeld => ?_)
          refine with_tabW jsort_tab jsort_bits (fun HT_ HW_ => ?_)
          generalize wr.drew = w3 at HO3 HG3 hHeld ⊢
          refine qz HT_ 0 ?_
          refine qz HT_ 1 ?_
          refine qz HT_ 2 ?_
          refine qz HT_ 3 ?_
          refine qn HT_ 4 ?_
          refine qn HT_ 5 ?_
          refine qn HT_ 6 ?_
          refine qn HT_ 7 ?_
          refine qn HT_ 8 ?_
          refine qn HT_ 9 ?_
          refine qn HT_ 10 ?_
          refine qn HT_ 11 ?_
          refine qn HT_ 12 ?_
          refine qn HT_ 13 ?_
          refine qn HT_ 14 ?_
          refine qn HT_ 15 ?_
          refine qz HT_ 16 ?_
          refine done_ (done_of HT_.out (by kernel_rfl)) ?_
          try go_wp2
          go_roundg (n - i)
          case measure => omega
          case rel =>
            have e4 : sortS (l.take (i + 1)) ++ l.drop (i + 1) = S.take 0 ++ x :: (S.drop 0 ++ R) := by
              have hil : i < l.length := by have := HN.out; omega
              have hxe : l[i] = x := by have := HX.out; rw [List.getElem?_eq_getElem hil] at this; exact Option.some.inj this
              rw [sortS_snoc l i hil, hxe, ← HS.out, insS_stop HSA.out (j := 0) (Nat.zero_le _) (fun h0 => absurd h0 (Nat.lt_irrefl _)) (fun t ht h => HT.out t ht h), ← HRr.out]
              simp
            refine ⟨i + 1, congrArg (Value.int .i64) (by omega), by omega, .inl (by omega), by omega, ⟨?_⟩, HG3⟩
            rw [e4]
            exact HO3.out
    · have hltz := DL (show ¬ (i : Int) < (n : Int) by omega)
      go_wp2
      try simp only [Exit.inBlock, Exit.then]
      refine bodyPost_end (results_none rfl _ _ _) rfl ?_
      refine ⟨rfl, ?_, HG.out⟩
      have h1 := HN.out
      have h2 := HO.out
      rw [List.take_of_length_le (by omega), List.drop_eq_nil_of_le (by omega), List.append_nil] at h2
      exact h2
set_option maxHeartbeats 2000000 in
theorem insertion_nilS (fn : Nat) (lb : Array Value) (A : Option Addr) (cap : Nat) (w : World) :
    Calls Try.prog 120 #[.slice A 0 cap, .int .i64 0, .int .i64 0, .func (.func fn) #[] lb] w fun e w' => e = .returned (.tuple #[]) ∧ w' = w := by
  go_enter Try.func120, Try.ntmps120
  go_wp2
  go_loopg [8, 9] 1 (fun gg s8 _ wr => s8 = .int .i64 1 ∧ wr = w)
  case atStart => exact ⟨rfl, rfl⟩
  case round =>
    obtain ⟨rfl, rfl⟩ := hrel
    go_wp2
    try simp only [Exit.inBlock, Exit.then]
    refine bodyPost_end (results_none rfl _ _ _) rfl ?_
    exact ⟨rfl, rfl⟩
theorem insertion_anyS (fn : Nat) (lb : Array Value) (eg : ∀ args w, (callFunc fn args).run Try.prog w = .ok (.enter fn args) w) (A : Option Addr) (cap : Nat) (l : List Stp) (w : World) (base : Nat) (ok : Nat → Prop)
    (HR : Kd.R k66 66 w base ok (.slice A l.length cap) l) (hl : l.length ≤ 12)
    (hp : ∀ (W : World) (x y : Stp), w.grownBy W ((.slice A l.length cap : Value).ownBlock) → Calls Try.prog fn (#[.agg #[.int .i64 x.f0, .int .i64 x.f1], .agg #[.int .i64 y.f0, .int .i64 y.f1]] ++ lb) W fun e w' => e = .returned (.int .i64 (cmpS x y)) ∧ Below W.heap.size W w') :
    Calls Try.prog 120 #[.slice A l.length cap, .int .i64 0, .int .i64 (l.length : Int), .func (.func fn) #[] lb] w fun e w' => e = .returned (.tuple #[]) ∧ Kd.R k66 66 w' base ok (.slice A l.length cap) (sortS l) ∧ w.grownBy w' ((.slice A l.length cap : Value).ownBlock) := by
  cases l with
  | nil =>
    refine (insertion_nilS fn lb A cap w).mono ?_
    rintro e w' ⟨rfl, rfl⟩
    exact ⟨rfl, HR, ⟨rfl, rfl, rfl, Nat.le_refl _, fun _ _ _ => rfl⟩⟩
  | cons a r =>
    obtain ⟨g, cap', hv, hbase, hglt, cells0, hcells0⟩ := Kd.R_form HR (by simp)
    simp only [Value.slice.injEq, true_and] at hv
    obtain ⟨rfl, rfl⟩ := hv
    exact insertion_step fn lb eg g cap (a :: r) w base ok HR hl hp
end Go.Proofs.Ytcklifkbodmoaaa.P
namespace Go.Proofs.Ytcklifkbodmoaaa.P
open Go.RowKit Go.Proofs.YtcklifkbodmoaaaV.PrintWords Go.Proofs.YtcklifkbodmoaaaV.PrintLast Go.Proofs.YtcklifkbodmoaaaV.PrintMore Go.Proofs.Ytcklifkbodmoaaa.M
set_option maxHeartbeats 8000000 in
set_option maxRecDepth 100000 in
theorem bitsLen64_small (n : Nat) (hn : n ≤ 12) (w : World) : Calls Try.prog 129 #[.int .u64 (n : Int)] w fun e w' => (∃ r : Int, e = .returned (.int .i64 r)) ∧ w' = w := by
  have h0 : n = 0 ∨ n = 1 ∨ n = 2 ∨ n = 3 ∨ n = 4 ∨ n = 5 ∨ n = 6 ∨ n = 7 ∨ n = 8 ∨ n = 9 ∨ n = 10 ∨ n = 11 ∨ n = 12 := by omega
  rcases h0 with rfl | rfl | rfl | rfl | rfl | rfl | rfl | rfl | rfl | rfl | rfl | rfl | rfl <;>
  · go_enter Try.func129, Try.ntmps129
    go_wp2
    go_ret
    exact ⟨⟨_, rfl⟩, rfl⟩
set_option maxHeartbeats 1000000 in
theorem bitsLen_small (n : Nat) (hn : n ≤ 12) (w : World) : Calls Try.prog 118 #[.int .u64 (n : Int)] w fun e w' => (∃ r : Int, e = .returned (.int .i64 r)) ∧ w' = w := by
  have HC := Aside0.mk (bitsLen64_small n hn w)
  go_enter Try.func118, Try.ntmps118
  go_wp2_with (go_at_call 129; refine HC.out.mono ?_; rintro e w' ⟨⟨r, rfl⟩, rfl⟩)
  go_ret
  exact ⟨⟨_, rfl⟩, rfl⟩
set_option maxHeartbeats 2000000 in
set_option maxRecDepth 100000 in
theorem pdq_step (fn : Nat) (lb : Array Value) (eg : ∀ args w, (callFunc fn args).run Try.prog w = .ok (.enter fn args) w) (A : Option Addr) (cap : Nat) (l : List Stp) (lim : Int) (w : World) (base : Nat) (ok : Nat → Prop)
    (HR : Kd.R k66 66 w base ok (.slice A l.length cap) l) (hl : l.length ≤ 12)
    (hp : ∀ (W : World) (x y : Stp), w.grownBy W ((.slice A l.length cap : Value).ownBlock) → Calls Try.prog fn (#[.agg #[.int .i64 x.f0, .int .i64 x.f1], .agg #[.int .i64 y.f0, .int .i64 y.f1]] ++ lb) W fun e w' => e = .returned (.int .i64 (cmpS x y)) ∧ Below W.heap.size W w') :
    Calls Try.prog 117 #[.slice A l.length cap, .int .i64 0, .int .i64 (l.length : Int), .int .i64 lim, .func (.func fn) #[] lb] w fun e w' => e = .returned (.tuple #[]) ∧ Kd.R k66 66 w' base ok (.slice A l.length cap) (sortS l) ∧ w.grownBy w' ((.slice A l.length cap : Value).ownBlock) := by
  have HC := Aside0.mk (insertion_anyS fn lb eg A cap l w base ok HR hl hp)
  clear HR hp eg
  generalize l.length = n at *
  have h1 := de (show (n : Int) ≤ 12 by omega)
  have h2 : wrap64 ((n : Int) - 0) = (n : Int) := by unfold wrap64; omega
  have h3 : wrap64 (n : Int) = (n : Int) := by unfold wrap64; omega
  go_enter Try.func117, Try.ntmps117
  go_wp2
  go_loopg [1, 2] 1 (fun gg s1 s2 wr => s1 = .int .i64 0 ∧ s2 = .int .i64 (n : Int) ∧ wr = w)
  case atStart => exact ⟨rfl, rfl, rfl⟩
  case round =>
    obtain ⟨rfl, rfl, rfl⟩ := hrel
    go_wp2_with (go_at_call 120; refine HC.out.mono ?_; rintro e w1 ⟨rfl, h4, h5⟩)
    try simp only [Exit.inBlock, Exit.then]
    refine bodyPost_ret (results_none rfl _ _ _) rfl ?_
    exact ⟨rfl, h4, h5⟩
set_option maxHeartbeats 2000000 in
theorem sortFunc_step (fn : Nat) (lb : Array Value) (eg : ∀ args w, (callFunc fn args).run Try.prog w = .ok (.enter fn args) w) (A : Option Addr) (cap : Nat) (l : List Stp) (w : World) (base : Nat) (ok : Nat → Prop)
    (HR : Kd.R k66 66 w base ok (.slice A l.length cap) l) (hl : l.length ≤ 12)
    (hp : ∀ (W : World) (x y : Stp), w.grownBy W ((.slice A l.length cap : Value).ownBlock) → Calls Try.prog fn (#[.agg #[.int .i64 x.f0, .int .i64 x.f1], .agg #[.int .i64 y.f0, .int .i64 y.f1]] ++ lb) W fun e w' => e = .returned (.int .i64 (cmpS x y)) ∧ Below W.heap.size W w') :
    Calls Try.prog 109 #[.slice A l.length cap, .func (.func fn) #[] lb] w fun e w' => e = .returned (.tuple #[]) ∧ Kd.R k66 66 w' base ok (.slice A l.length cap) (sortS l) ∧ w.grownBy w' ((.slice A l.length cap : Value).ownBlock) := by
  have HC := Aside0.mk (fun lim => pdq_step fn lb eg A cap l lim w base ok HR hl hp)
  have HL := Aside0.mk (bitsLen_small l.length hl w)
  clear HR hp eg
  generalize l.length = n at *
  have h3 : wrap64 (n : Int) = (n : Int) := by unfold wrap64; omega
  have h4 : (n : Int) % 18446744073709551616 = (n : Int) := by omega
  go_enter Try.func109, Try.ntmps109
  go_wp2_with (first | (go_at_call 118; refine HL.out.mono ?_; rintro e w' ⟨⟨lim, rfl⟩, rfl⟩) | (go_at_call 117; refine (HC.out _).mono ?_; rintro e w1 ⟨rfl, h7, h8⟩))
  try simp only [Exit.inBlock, Exit.then]
  refine bodyPost_end (results_none rfl _ _ _) rfl ?_
  exact ⟨rfl, h7, h8⟩
theorem step_cells {W : World} {base g n cap : Nat} {ok : Nat → Prop} {dk : List Stp} (HO : Kd.R k66 66 W base ok (.slice (some ⟨g, 0, none⟩) n cap) dk) {i : Nat} {x : Stp} (hx : dk[i]? = some x) :
    W.cell? ⟨g, i * 2, none⟩ = some (.int .i64 x.f0) ∧ W.cell? ⟨g, i * 2 + 1, none⟩ = some (.int .i64 x.f1) ∧ W.frozen? ⟨g, i * 2, none⟩ = false ∧ W.frozen? ⟨g, i * 2 + 1, none⟩ = false := by
  obtain ⟨h1, h2⟩ := List.getElem?_eq_some_iff.1 hx
  have hn := (Kd.R_reads' HO).1
  obtain ⟨ce, hcl, hM, hcc, hfr⟩ := Kd.R_elem HO z66 (i : Int) (by omega) (by omega)
  rw [show dk.getD ((i : Int).toNat) z66 = x by simp [List.getD, hx]] at hM
  obtain rfl := k66_openM hM
  exact ⟨hcc 0 _ rfl, hcc 1 _ rfl, hfr 0, hfr 1⟩
theorem step_put {W : World} {base g n cap : Nat} {ok : Nat → Prop} {dk : List Stp} (HO : Kd.R k66 66 W base ok (.slice (some ⟨g, 0, none⟩) n cap) dk) {i : Nat} {x : Stp} (hx : dk[i]? = some x) (y : Stp) :
    Kd.R k66 66 ((W.setCell ⟨g, i * 2, none⟩ (.int .i64 y.f0)).setCell ⟨g, i * 2 + 1, none⟩ (.int .i64 y.f1)) base ok (.slice (some ⟨g, 0, none⟩) n cap) (dk.set i y) ∧ W.grownBy ((W.setCell ⟨g, i * 2, none⟩ (.int .i64 y.f0)).setCell ⟨g, i * 2 + 1, none⟩ (.int .i64 y.f1)) (some g) := by
  obtain ⟨h1, h2⟩ := List.getElem?_eq_some_iff.1 hx
  have hn := (Kd.R_reads' HO).1
  obtain ⟨ce, hcl, hM, hcc, hfr⟩ := Kd.R_elem HO z66 (i : Int) (by omega) (by omega)
  exact Kd.R_seg HO (i : Int) (by omega) (by omega) (seg := [.int .i64 y.f0, .int .i64 y.f1]) (j := 0) hcl hcc (show 2 ≤ 2 from by decide) (x' := y) (by have h5 : ce.drop 2 = [] := List.drop_eq_nil_of_le (by rw [hcl]; exact Nat.le_refl 2); show k66.M _ _ _ y ([] ++ [.int .i64 y.f0, .int .i64 y.f1] ++ ce.drop 2); rw [h5]; exact k66_mkM _ _ _ y) (fun _ hk => hk)
def revS_T : Bool × List (List Nat × List Nat) := (true, [([], []), ([], []), ([], []), ([], []), ([], []), ([], []), ([4, 5], [4, 5]), ([6], [6]), ([], []), ([], []), ([8, 9], [8, 9]), ([10], [10]), ([0, 1, 0, 1, 4, 5, 6, 7, 11], [0, 1]), ([12, 7, 0, 1, 4, 5, 6, 7, 11], [7, 12]), ([2, 3, 0, 1, 2, 3, 4, 5, 6, 7, 8, 9, 10, 11, 12, 13], [2, 3]), ([14, 11, 13, 0, 1, 2, 3, 4, 5, 6, 7, 8, 9, 10, 11, 12, 13], [11, 14])])
def revS_B : List Nat := [0, 0, 0, 0, 0, 0, 48, 112, 0, 0, 768, 1792, 4083, 8179, 16383, 32767]
theorem revS_tab : rtab .any (opsOf Try.f112 3) = revS_T := by kernel_rfl
theorem revS_bits : waitsOk revS_T.2 revS_B = true := by kernel_rfl
set_option maxHeartbeats 4000000 in
set_option maxRecDepth 100000 in
theorem reverse_step (A : Option Addr) (cap : Nat) (l : List Stp) (w : World) (base : Nat) (ok : Nat → Prop) (HR : Kd.R k66 66 w base ok (.slice A l.length cap) l) :
    Calls Try.prog 112 #[.slice A l.length cap] w fun e w' => e = .returned (.tuple #[]) ∧ Kd.R k66 66 w' base ok (.slice A l.length cap) l.reverse ∧ w.grownBy w' ((.slice A l.length cap : Value).ownBlock) := by
  have hu := Try.underlying66
  have hmx : l.length ≤ 9223372036854775807 := (Kd.R_reads' HR).2.2.2.1
  have HRA := Aside0.mk HR
  clear HR
  obtain ⟨n, hn⟩ : ∃ n, n = l.length := ⟨_, rfl⟩
  rw [← hn] at hmx HRA ⊢
  have HN := Aside0.mk hn
  clear hn
  have hw0 : wrap64 ((n : Int) - 1) = (n : Int) - 1 := by unfold wrap64; omega
  go_enter Try.func112, Try.ntmps112
  go_wp2
  go_loopg [2, 3] n (fun gg s2 s3 wr => ∃ (i : Nat) (dk : List Stp), s2 = .int .i64 (i : Int) ∧ s3 = .int .i64 ((n : Int) - 1 - (i : Int)) ∧ 2 * i ≤ n ∧ n - i ≤ gg ∧ Aside0 (∀ t, t < n → dk[t]? = if t < i ∨ n ≤ t + i then l[n - 1 - t]? else l[t]?) ∧ Aside0 (Kd.R k66 66 wr base ok (.slice A n cap) dk) ∧ Aside0 (w.grownBy wr ((.slice A n cap : Value).ownBlock)))
  case atStart => exact ⟨0, l, rfl, congrArg (Value.int .i64) (by first | omega | (rw [hw0]; omega)), by omega, Nat.le_refl _, ⟨fun t ht => by rw [if_neg (by omega)]⟩, HRA, ⟨⟨rfl, rfl, rfl, Nat.le_refl _, fun _ _ _ => rfl⟩⟩⟩
  case round =>
    obtain ⟨i, dk, rfl, h3, hi2, hgg, HT, HO, HG⟩ := hrel
    by_cases hlt : i + i + 1 < n
    · obtain ⟨J, hJ⟩ : ∃ J, J = n - 1 - i := ⟨_, rfl⟩
      rw [show (n : Int) - 1 - (i : Int) = (J : Int) by omega] at h3
      subst h3
      have hltz := dl (show (i : Int) < (J : Int) by omega)
      have hltn := dl (show i < J by omega)
      have hln : n = dk.length := (Kd.R_reads' HO.out).1
      obtain ⟨g, cap', hvv, hbase, hglt, cells0, hcells0⟩ := Kd.R_form HO.out (by omega)
      simp only [Value.slice.injEq] at hvv
      have hA := hvv.1
      clear hvv hbase hglt hcells0 cells0
      subst hA
      obtain ⟨x, hx⟩ : ∃ x, dk[J]? = some x := ⟨_, List.getElem?_eq_getElem (by omega)⟩
      obtain ⟨y, hy⟩ : ∃ y, dk[i]? = some y := ⟨_, List.getElem?_eq_getElem (by omega)⟩
      have HX := Aside0.mk hx
      have HY := Aside0.mk hy
      have HJ := Aside0.mk hJ
      have HLN := Aside0.mk hln
      have p0 := eq_true (show 0 ≤ (i : Int) by omega)
      have q0 := eq_true (show (i : Int) < (n : Int) by omega)
      have p1 := eq_true (show 0 ≤ (J : Int) by omega)
      have q1 := eq_true (show (J : Int) < (n : Int) by omega)
      clear hx hy hJ hln
      try go_wp2
      replace HO := Aside0.mk (Kd.R_drew HO.out)
      replace HG : Aside0 (w.grownBy wr.drew (some g)) := ⟨⟨HG.out.os, HG.out.tape, HG.out.output, HG.out.size, HG.out.block⟩⟩
      obtain ⟨h0, h1, f0, f1⟩ := step_cells HO.out HX.out
      obtain ⟨k0, k1, e0, e1⟩ := step_cells HO.out HY.out
      refine start_ (n := 16) (S := fun w' => w'.cell? ⟨g, J * 2, none⟩ = some (.int .i64 x.f0) ∧ w'.cell? ⟨g, J * 2 + 1, none⟩ = some (.int .i64 x.f1) ∧ w'.cell? ⟨g, i * 2, none⟩ = some (.int .i64 y.f0) ∧ w'.cell? ⟨g, i * 2 + 1, none⟩ = some (.int .i64 y.f1)) (ds := [13, 15]) (zt 16 0) (by kernel_rfl) rfl (by kernel_rfl) ⟨h0, h1, k0, k1⟩ (fun hHeld => ?_)
      refine with_tabW revS_tab revS_bits (fun HT_ HW_ => ?_)
      clear h0 h1 f0 f1
      generalize wr.drew = w3 at HO HG hHeld k0 k1 e0 e1 ⊢
      refine qz HT_ 0 ?_
      refine qz HT_ 1 ?_
      refine qz HT_ 2 ?_
      refine qz HT_ 3 ?_
      refine qz HT_ 4 ?_
      refine qz HT_ 5 ?_
      refine qz HT_ 6 ?_
      refine qz HT_ 8 ?_
      refine qz HT_ 9 ?_
      refine qz HT_ 10 ?_
      refine qt HT_ HW_ hHeld 7 ?_
      refine qt HT_ HW_ hHeld 11 ?_
      refine qz HT_ 12 ?_
      clear hHeld
      have HP2 := Aside0.mk (step_put HO.out HY.out x)
      refine last_ (i := 13) (N := none) (zt 16 16383) rfl rfl (one_of HT_.out (by kernel_rfl)) (by decide) (fun K hK => ?_)
      refine skip_ (w1 := ((w3.setCell ⟨g, i * 2, none⟩ (.int .i64 x.f0)).setCell ⟨g, i * 2 + 1, none⟩ (.int .i64 x.f1))) (by rfl) rfl (by first | (go_simp; done) | (go_simp; rfl)) ?_
      refine hK.out _ _ ?_
      clear hK K
      have HO6 := Aside0.mk HP2.out.1
      have HG6 := Aside0.mk (grown_transS HG.out HP2.out.2)
      clear HP2 HO HG k0 k1 e0 e1
      generalize ((w3.setCell ⟨g, i * 2, none⟩ (.int .i64 x.f0)).setCell ⟨g, i * 2 + 1, none⟩ (.int .i64 x.f1)) = w6 at HO6 HG6 ⊢
      have HXJ : Aside0 ((dk.set i x)[J]? = some x) := ⟨by rw [List.getElem?_set_ne (by have := HJ.out; omega)]; exact HX.out⟩
      obtain ⟨h0, h1, f0, f1⟩ := step_cells HO6.out HXJ.out
      have HP2 := Aside0.mk (step_put HO6.out HXJ.out y)
      refine qz HT_ 14 ?_
      refine last_ (i := 15) (N := none) (zt 16 65535) rfl rfl (one_of HT_.out (by kernel_rfl)) (by decide) (fun K hK => ?_)
      refine skip_ (w1 := ((w6.setCell ⟨g, J * 2, none⟩ (.int .i64 y.f0)).setCell ⟨g, J * 2 + 1, none⟩ (.int .i64 y.f1))) (by rfl) rfl (by first | (go_simp; done) | (go_simp; rfl)) ?_
      refine hK.out _ _ ?_
      clear hK K
      have HO7 := Aside0.mk HP2.out.1
      have HG7 := Aside0.mk (grown_transS HG6.out HP2.out.2)
      clear HP2 HO6 HG6 h0 h1 f0 f1
      generalize ((w6.setCell ⟨g, J * 2, none⟩ (.int .i64 y.f0)).setCell ⟨g, J * 2 + 1, none⟩ (.int .i64 y.f1)) = w7 at HO7 HG7 ⊢
      refine done_ (done_of HT_.out (by kernel_rfl)) ?_
      clear HT_ HW_
      try go_wp2
      go_roundg (n - i - 1)
      case measure => omega
      case rel =>
        refine ⟨i + 1, (dk.set i x).set J y, congrArg (Value.int .i64) (by first | omega | (unfold wrap64; omega)), congrArg (Value.int .i64) (by have := HJ.out; first | omega | (unfold wrap64; omega)), by omega, by omega, ⟨fun t ht => ?_⟩, HO7, HG7⟩
        have hJ := HJ.out
        have hln := HLN.out
        by_cases htJ : t = J
        · subst htJ
          rw [List.getElem?_set_self (by rw [List.length_set]; omega), if_pos (by omega), show n - 1 - t = i by omega, ← HY.out, HT.out i (by omega), if_neg (by omega)]
        · rw [List.getElem?_set_ne (fun e => htJ e.symm)]
          by_cases hti : t = i
          · subst hti
            rw [List.getElem?_set_self (by omega), if_pos (by omega), show n - 1 - t = J by omega, ← HX.out, HT.out J (by omega), if_neg (by omega)]
          · rw [List.getElem?_set_ne (fun e => hti e.symm), HT.out t ht]
            by_cases h5 : t < i ∨ n ≤ t + i
            · rw [if_pos h5, if_pos (by omega)]
            · rw [if_neg h5, if_neg (by omega)]
    · have hltz := DL (show ¬ (i : Int) < (n : Int) - 1 - (i : Int) by omega)
      subst h3
      go_wp2
      try simp only [Exit.inBlock, Exit.then]
      refine bodyPost_end (results_none rfl _ _ _) rfl ?_
      have hrev : dk = l.reverse := by
        have hln : n = dk.length := (Kd.R_reads' HO.out).1
        have hnn := HN.out
        refine List.ext_getElem? fun t => ?_
        by_cases ht : t < n
        · rw [HT.out t ht, List.getElem?_reverse (by omega), ← hnn]
          by_cases h5 : t < i ∨ n ≤ t + i
          · rw [if_pos h5]
          · rw [if_neg h5, show n - 1 - t = t by omega]
        · rw [List.getElem?_eq_none (by omega), List.getElem?_eq_none (by rw [List.length_reverse]; omega)]
      exact ⟨rfl, by rw [← hrev]; exact HO.out, HG.out⟩
end Go.Proofs.Ytcklifkbodmoaaa.P
namespace Go.Proofs.Ytcklifkbodmoaaa.P
open Go.RowKit Go.Proofs.YtcklifkbodmoaaaV.PrintWords Go.Proofs.YtcklifkbodmoaaaV.PrintLast Go.Proofs.YtcklifkbodmoaaaV.PrintMore Go.Proofs.Ytcklifkbodmoaaa.M
/-- where the first element lies of which q holds; -1, if there is none -/
def idxOf {α : Type} (q : α → Bool) (l : List α) : Int := match l.findIdx? q with
  | some i => (i : Int)
  | none => -1
theorem idxOf_hit {α : Type} {q : α → Bool} {l : List α} {i : Nat} (hi : i < l.length) (hq : q l[i] = true) (h : ∀ j (hj : j < l.length), j < i → q l[j] = false) : idxOf q l = i := by
  have : l.findIdx? q = some i := by
    rw [List.findIdx?_eq_some_iff_getElem]
    exact ⟨hi, hq, fun j hj => by simp [h j (by omega) hj]⟩
  simp [idxOf, this]
theorem idxOf_miss {α : Type} {q : α → Bool} {l : List α} (h : ∀ j (hj : j < l.length), q l[j] = false) : idxOf q l = -1 := by
  have : l.findIdx? q = none := by
    rw [List.findIdx?_eq_none_iff]
    intro x hx
    obtain ⟨j, hj, rfl⟩ := List.getElem_of_mem hx
    exact h j hj
  simp [idxOf, this]
theorem idxOf_any {α : Type} (q : α → Bool) (l : List α) : decide (idxOf q l ≥ 0) = l.any q := by
  unfold idxOf
  cases h : l.findIdx? q with
  | none =>
    rw [List.findIdx?_eq_none_iff] at h
    simp
    exact fun x hx => by simpa using h x hx
  | some i =>
    obtain ⟨hi, hq, _⟩ := List.findIdx?_eq_some_iff_getElem.1 h
    simp
    exact ⟨_, List.getElem_mem hi, hq⟩
set_option maxHeartbeats 2000000 in
set_option maxRecDepth 100000 in
theorem indexFunc_step (q : S66 → Bool) (g : Nat) (lb : Array Value) (eg : ∀ args w, (callFunc g args).run Try.prog w = .ok (.enter g args) w)
    (A : Option Addr) (c : Nat) (l : List S66) (w : World) (hr : Kd.C k66 w A l.length l)
    (hp : ∀ (W : World) (x : S66), x ∈ l → Below w.heap.size w W → Calls Try.prog g (#[.agg #[.int .i64 x.f0, .int .i64 x.f1]] ++ lb) W fun e w' => e = .returned (.bool (q x)) ∧ Below W.heap.size W w') :
    Calls Try.prog 107 #[.slice A l.length c, .func (.func g) #[] lb] w fun e w' => e = .returned (.int .i64 (idxOf q l)) ∧ Below w.heap.size w w' := by
  have hm : l.length ≤ 9223372036854775807 := hr.2.1
  have HR := Aside0.mk hr
  clear hr
  have HP := Aside0.mk hp
  clear hp
  have hu := Try.underlying66
  go_enter Try.func107, Try.ntmps107
  go_wp2
  go_loopg [5, 8] l.length (fun gg _ s8 wr => ∃ kk : Nat, kk ≤ l.length ∧ l.length - kk ≤ gg ∧ s8 = .int .i64 kk ∧ Aside0 (Below w.heap.size w wr) ∧ Aside0 (∀ j (hj : j < l.length), j < kk → q l[j] = false))
  case atStart => exact ⟨0, Nat.zero_le _, by omega, rfl, ⟨Below.refl _ w⟩, ⟨fun j _ hj => absurd hj (Nat.not_lt_zero _)⟩⟩
  case round =>
    obtain ⟨kk, hkk, hg, rfl, BW, AA⟩ := hrel
    by_cases hlt : kk < l.length
    · have hltz : (kk : Int) < (l.length : Int) := by omega
      obtain ⟨ad, e1, h0, h1⟩ := at_T66 HR.out (kk : Int) (by omega) hltz
      simp only [Int.toNat_natCast] at h0 h1
      cases e1
      replace h0 := (BW.out.cell (World.block_lt_of_cell? w _ h0)).trans h0
      replace h1 := (BW.out.cell (World.block_lt_of_cell? w _ h1)).trans h1
      have hcall := HP.out wr l[kk] (List.getElem_mem hlt) BW.out
      rw [rdSt_at l kk hlt] at h0 h1
      generalize hy : l[kk] = y at h0 h1 hcall
      have B : Aside0 (l[kk] = y) := ⟨hy⟩
      clear hy
      cases hq : q y with
      | true =>
        rw [hq] at hcall
        go_wp2
        refine hcall.mono ?_
        rintro e w' ⟨rfl, hb'⟩
        go_wp2
        go_ret
        refine ⟨?_, BW.out.trans (hb'.mono BW.out.size)⟩
        rw [idxOf_hit hlt (by rw [B.out]; exact hq) AA.out]; rfl
      | false =>
        rw [hq] at hcall
        go_wp2
        refine hcall.mono ?_
        rintro e w' ⟨rfl, hb'⟩
        go_wp2
        go_roundg (l.length - (kk + 1))
        case measure => omega
        case rel =>
          refine ⟨kk + 1, by omega, by omega, congrArg (Value.int .i64) (by first | omega | (unfold wrap64; omega)), ⟨BW.out.trans (hb'.mono BW.out.size)⟩, ⟨fun j hj hjk => ?_⟩⟩
          by_cases e : j = kk
          · subst e
            rw [B.out]; exact hq
          · exact AA.out j hj (by omega)
    · have hltz : ¬ (kk : Int) < (l.length : Int) := by omega
      have hd : decide (kk < l.length) = false := by simp; omega
      go_wp2
      go_ret
      refine ⟨?_, BW.out⟩
      rw [idxOf_miss (fun j hj => AA.out j hj (by omega))]; rfl
set_option maxHeartbeats 1000000 in
theorem containsFunc_step (q : S66 → Bool) (g : Nat) (lb : Array Value) (eg : ∀ args w, (callFunc g args).run Try.prog w = .ok (.enter g args) w)
    (A : Option Addr) (c : Nat) (l : List S66) (w : World) (hr : Kd.C k66 w A l.length l)
    (hp : ∀ (W : World) (x : S66), x ∈ l → Below w.heap.size w W → Calls Try.prog g (#[.agg #[.int .i64 x.f0, .int .i64 x.f1]] ++ lb) W fun e w' => e = .returned (.bool (q x)) ∧ Below W.heap.size W w') :
    Calls Try.prog 99 #[.slice A l.length c, .func (.func g) #[] lb] w fun e w' => e = .returned (.bool (l.any q)) ∧ Below w.heap.size w w' := by
  have H := Aside0.mk (indexFunc_step q g lb eg A c l w hr hp)
  have hq := Aside0.mk (idxOf_any q l)
  clear hr hp
  go_enter Try.func99, Try.ntmps99
  go_wp2_with (go_at_call 107; refine H.out.mono ?_; rintro e w' ⟨rfl, hb⟩)
  go_ret
  exact ⟨by rw [← hq.out]; rfl, hb⟩

def slices_Clone_Step.f (l0 : List (S66)) : Option (List (S66)) := if l0.length ≤ 3518437208883 then some l0 else none
set_option maxHeartbeats 4000000 in
set_option maxRecDepth 100000 in
theorem slices_Clone_Step.calls (A0 : Option Addr) (c0 : Nat) (l0 : List (S66)) (r : List (S66)) (w : World) (hr0 : Kd.C k66 w A0 l0.length l0) (hc0 : l0.length ≤ c0) (h : slices_Clone_Step.f l0 = some r) :
    Calls Try.prog 108 #[.slice A0 l0.length c0] w fun e w' => ∃ v0_ : Value, e = .returned (v0_) ∧ Kd.R k66 66 w' w.heap.size (fun _ => True) v0_ r ∧ Below w.heap.size w w' := by
  unfold slices_Clone_Step.f at h
  by_cases hl : l0.length ≤ 3518437208883
  · rw [if_pos hl] at h
    obtain rfl := Option.some.inj h
    clear h
    have HL := Aside0.mk hl
    clear hl
    have HR := Aside0.mk hr0
    clear hr0
    have hu := Try.underlying59
    cases A0 with
    | none =>
      have h0 : l0 = [] := by
        cases l0 with
        | nil => rfl
        | cons x l => obtain ⟨_, e, _⟩ := HR.out.2.2 (by simp); cases e
      subst h0
      have e1 : ∀ W : World, (binOp .eql 59 (.slice none 0 c0) (.slice none 0 0)).run Try.prog W = .ok (.bool true) W := fun W => Go.run_eql_slice_nil W 59 _ none 0 c0 hu
      go_enter Try.func108, Try.ntmps108
      go_wp2
      go_ret
      exact ⟨_, rfl, Kd.R_nil _ _ _ _ _, Below.refl _ _⟩
    | some ad =>
      have e1 : ∀ W : World, (binOp .eql 59 (.slice (some ad) l0.length c0) (.slice none 0 0)).run Try.prog W = .ok (.bool false) W := fun W => Go.run_eql_slice_nil W 59 _ (some ad) l0.length c0 hu
      go_enter Try.func108, Try.ntmps108
      go_wp2_with (first | ((with_reducible refine gate_dst (N := 5) rfl ?_); refine Kd.R_lit k66 w.heap.size 66 ?hg (N := 5) ?hd (xs := ([] : List (S66))) (inner := []) (ok := fun _ => True) (okp := fun _ => True) ?hr ?hp (fun _ hk => hk) trivial (Below.refl _ _) (Nat.le_refl _) (by simp) ?_; (case hd => rfl); (case hg => rfl); (case hr => first | (go_simp; done) | (go_simp; rfl)); (case hp => exact (Reps.none _ _)); intro v1 w1 ho hb hg_ hnew_; clear hg_ hnew_; have HO1 := Aside0.mk ho; have HB1 := Aside0.mk hb; clear ho hb) | (at_builtin; refine Kd.R_append_rows k66 w.heap.size rfl (.tmp 5) (.tmp 6) 59 66 (.agg #[(.int .i64 0), (.int .i64 0)]) 16 rfl Try.underlying59 info66 rfl (by decide) (by decide) _ [] l0 (some ad) l0.length c0 (fun _ => True) (fun k_ => k_ < w.heap.size ∧ False) rfl rfl HO1.out (Kd.C_below HR.out HB1.out) (fun x cs h => by obtain rfl := k66_open h; exact k66_mkM _ _ _ x) (fun _ hk => hk.2.elim) (fun _ _ => trivial) HB1.out (HB1.out.size) (by have := HL.out; simp only [List.length_nil]; omega) ?_; intro v2 w2 ho2 hb2 hg2 hat2; clear hg2 hat2; have HO2 := Aside0.mk ho2; have HB2 := Aside0.mk hb2; clear ho2 hb2))
      go_ret
      exact ⟨_, rfl, by simpa using HO2.out, HB2.out⟩
  · rw [if_neg hl] at h
    cases h
theorem profile1_cmp (x y : Stp) (W : World) : Calls Try.prog 110 #[.agg #[.int .i64 x.f0, .int .i64 x.f1], .agg #[.int .i64 y.f0, .int .i64 y.f1]] W fun e w' => e = .returned (.int .i64 (cmpS x y)) ∧ Below W.heap.size W w' := by
  refine impl_profile_1.calls 3 _ _ _ _ _ _ ?_
  have hw1 : wrap64 1 = 1 := by unfold wrap64; omega
  have hw2 : wrap64 2 = 2 := by unfold wrap64; omega
  have hc : ∀ a b : Int, cmp_Compare_int.f a b = some (if a < b then -1 else if a > b then 1 else 0) := fun a b => by
    unfold cmp_Compare_int.f cmp_isNaN_int.f
    simp
    by_cases h1 : a < b
    · simp [h1]
    · by_cases h2 : b < a <;> simp [h1, h2]
  unfold impl_profile_1.f
  rw [hc, hc]
  simp only [Option.bind_some]
  unfold cmp_Or_int.f cmpS
  by_cases h1 : y.f0 < x.f0
  · simp [h1, cmp_Or_int.l0, rd]
  · by_cases h2 : x.f0 < y.f0
    · simp [h1, h2, cmp_Or_int.l0, rd]
    · by_cases h3 : x.f1 < y.f1
      · simp [h1, h2, h3, cmp_Or_int.l0, rd, hw1]
      · by_cases h4 : y.f1 < x.f1
        · simp [h1, h2, h3, h4, cmp_Or_int.l0, rd, hw1]
        · simp [h1, h2, h3, h4, cmp_Or_int.l0, rd, hw1, hw2]
theorem kept_grown {w w' : World} {v : Value} {P : Nat → Prop} (h : w.grownBy w' v.ownBlock) (hP : ∀ k, v.ownBlock = some k → P k) : Kept w w' P :=
  ⟨h.size, fun i hi hn => h.block i hi (fun e => hn (hP i e.symm))⟩
def sort_profile.f (l : List (S66)) : Option (List (S66)) := if l.length ≤ 12 then some (sortS l) else none
theorem sort_profile.calls (P0_ : Nat → Prop) (u9000_ : Value) (l0 : List (S66)) (r : List (S66)) (w0 w : World) (hB : Below w0.heap.size w0 w) (ho0 : Kd.R k66 66 w w0.heap.size P0_ u9000_ l0) (h : sort_profile.f l0 = some r) :
    Calls Try.prog 109 #[u9000_, .func (.func 110) #[] #[]] w fun e w' => e = .returned (.tuple #[]) ∧ Kd.R k66 66 w' w0.heap.size (fun k_ => (P0_ k_ ∨ w.heap.size ≤ k_)) u9000_ r ∧ Below w0.heap.size w0 w' ∧ Kept w w' (fun k_ => P0_ k_) := by
  unfold sort_profile.f at h
  split at h
  · rename_i hl
    obtain rfl := Option.some.inj h
    obtain ⟨A, c, rfl⟩ := Kd.R_slice ho0
    refine (sortFunc_step 110 #[] (fun args W => enters_ (P := Try.prog) Try.func110 (by kernel_rfl) rfl args W) A c l0 w w0.heap.size P0_ ho0 hl (fun W x y _ => by simpa using profile1_cmp x y W)).mono ?_
    rintro e w' ⟨rfl, h1, h2⟩
    exact ⟨rfl, Kd.R_mono h1 (fun k hk => .inl hk), hB.grown h2 hB.size (fun k hk => Kd.R_base ho0 k hk), kept_grown h2 ho0.1⟩
  · cases h
def reverse_stp.f (l : List (S66)) : Option (List (S66)) := some l.reverse
theorem reverse_stp.calls (P0_ : Nat → Prop) (u9000_ : Value) (l0 : List (S66)) (r : List (S66)) (w0 w : World) (hB : Below w0.heap.size w0 w) (ho0 : Kd.R k66 66 w w0.heap.size P0_ u9000_ l0) (h : reverse_stp.f l0 = some r) :
    Calls Try.prog 112 #[u9000_] w fun e w' => e = .returned (.tuple #[]) ∧ Kd.R k66 66 w' w0.heap.size (fun k_ => (P0_ k_ ∨ w.heap.size ≤ k_)) u9000_ r ∧ Below w0.heap.size w0 w' ∧ Kept w w' (fun k_ => P0_ k_) := by
  obtain rfl := Option.some.inj h
  obtain ⟨A, c, rfl⟩ := Kd.R_slice ho0
  refine (reverse_step A c l0 w w0.heap.size P0_ ho0).mono ?_
  rintro e w' ⟨rfl, h1, h2⟩
  exact ⟨rfl, Kd.R_mono h1 (fun k hk => .inl hk), hB.grown h2 hB.size (fun k hk => Kd.R_base ho0 k hk), kept_grown h2 ho0.1⟩
def validS (x : Stp) : Bool := betB x.f0 0 199 && betB x.f1 x.f0 199
def contains_StairOf1.f (l : List (S66)) : Option Bool := some (l.any fun x => !validS x)
theorem contains_StairOf1.calls (A : Option Addr) (c : Nat) (l : List (S66)) (r : Bool) (w : World) (hr : Kd.C k66 w A l.length l) (hc : l.length ≤ c) (h : contains_StairOf1.f l = some r) :
    Calls Try.prog 99 #[.slice A l.length c, .func (.func 100) #[] #[]] w fun e w' => e = .returned (.bool r) ∧ Below w.heap.size w w' := by
  obtain rfl := Option.some.inj h
  refine containsFunc_step _ 100 #[] (fun args W => enters_ (P := Try.prog) Try.func100 (by kernel_rfl) rfl args W) A c l w hr (fun W x _ _ => ?_)
  have hv : impl_StairOf_1.f x.f0 x.f1 = some (!validS x) := by
    unfold impl_StairOf_1.f
    obtain ⟨k, hk⟩ := valid_ev x.f0 x.f1
    have h9 : impl_Step_valid.f x.f0 x.f1 = some (betB x.f0 0 199 && betB x.f1 x.f0 199) := hk k (Nat.le_refl _)
    rw [h9]
    rfl
  simpa using impl_StairOf_1.calls x.f0 x.f1 _ W hv
end Go.Proofs.Ytcklifkbodmoaaa.P
