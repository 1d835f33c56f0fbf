/- Contract: impl.rankOf, by hand: two tables, both stored into; they are told apart by when they were made. -/
import Derived.Test.YtdlaaccnaokdnaaHUp
import Derived.Test.YtdlaaccnaokdnaaHNet
import Derived.Test.YtdlaaccnaokdnaaHLib
import Derived.Test.YtdlaaccnaokdnaaHRankS
import Derived.Test.YtdlaaccnaokdnaaMRankG
set_option linter.unusedVariables false
set_option linter.unusedSimpArgs false
namespace Go.Proofs.Ytdlaaccnaokdnaa.P
open Go.RowKit Go.Proofs.Ytdlaaccnaokdnaa.M Go.Proofs.YtdlaaccnaokdnaaV.PrintWords Go.Proofs.YtdlaaccnaokdnaaV.PrintLast Go.Proofs.YtdlaaccnaokdnaaV.PrintMore
def rk1_T : Bool × List (List Nat × List Nat) := (true, [([], []), ([0], [0]), ([1, 1], [1]), ([], []), ([3], [3]), ([4, 2], [4]), ([], []), ([6], [6]), ([7, 5], [7]), ([2, 5, 8], [2, 5, 8]), ([], []), ([10, 9, 8, 0, 1, 2, 3, 4, 5, 6, 7, 8, 9, 10], [9, 10])])
def rk1_B : List Nat := [0, 1, 3, 0, 8, 31, 0, 64, 255, 511, 0, 2047]
theorem rk1_tab : rtab .any (opsOf Try.f71 1) = rk1_T := by kernel_rfl
theorem rk1_bits : waitsOk rk1_T.2 rk1_B = true := by kernel_rfl
def rk5_T : Bool × List (List Nat × List Nat) := (true, [([], []), ([0], [0]), ([], []), ([2], [2]), ([1, 3], [1, 3]), ([4], [4]), ([], []), ([6], [6]), ([], []), ([8], [8]), ([], []), ([10], [10]), ([9, 11], [9, 11]), ([12], [12]), ([], []), ([14], [14]), ([13, 15], [13, 15]), ([16], [16]), ([], []), ([18], [18]), ([17, 19], [17, 19]), ([5, 7, 0, 1, 2, 3, 4, 5, 6, 7, 8, 9, 10, 11, 12, 13, 14, 15, 16, 17, 18, 19, 20], [5, 7]), ([21, 20, 0, 1, 2, 3, 4, 5, 6, 7, 8, 9, 10, 11, 12, 13, 14, 15, 16, 17, 18, 19, 20], [20, 21])])
def rk5_B : List Nat := [0, 1, 0, 4, 15, 31, 0, 64, 0, 256, 0, 1024, 3840, 7936, 0, 16384, 65280, 130816, 0, 262144, 1048320, 2097151, 4194303]
theorem rk5_tab : rtab .any (opsOf Try.f71 5) = rk5_T := by kernel_rfl
theorem rk5_bits : waitsOk rk5_T.2 rk5_B = true := by kernel_rfl
def rk17_T : Bool × List (List Nat × List Nat) := (true, [([], []), ([0], [0]), ([], []), ([1, 2], [1, 2]), ([3], [3]), ([], []), ([4, 5], [4, 5]), ([6], [6]), ([], []), ([8], [8]), ([], []), ([9, 10], [9, 10]), ([11], [11]), ([], []), ([12, 13], [12, 13]), ([14], [14]), ([7, 15], [7, 15]), ([16, 0, 1, 2, 3, 4, 5, 6, 7, 8, 9, 10, 11, 12, 13, 14, 15, 16], [16])])
def rk17_B : List Nat := [0, 1, 0, 7, 15, 0, 63, 127, 0, 256, 0, 1792, 3840, 0, 16128, 32512, 65535, 131071]
theorem rk17_tab : rtab .any (opsOf Try.f71 17) = rk17_T := by kernel_rfl
theorem rk17_bits : waitsOk rk17_T.2 rk17_B = true := by kernel_rfl
def rk19_T : Bool × List (List Nat × List Nat) := (true, [([], []), ([0], [0]), ([], []), ([1, 2], [1, 2]), ([3], [3]), ([], []), ([], []), ([6], [6]), ([], []), ([7, 8], [7, 8]), ([9], [9]), ([], []), ([], []), ([], []), ([4, 5, 0, 1, 2, 3, 4, 5, 10, 12], [4, 5]), ([14, 12, 0, 1, 2, 3, 4, 5, 10, 12], [12, 14]), ([10, 11, 0, 1, 2, 3, 4, 5, 6, 7, 8, 9, 10, 11, 12, 13, 14, 15], [10, 11]), ([16, 13, 15, 0, 1, 2, 3, 4, 5, 6, 7, 8, 9, 10, 11, 12, 13, 14, 15], [13, 16])])
def rk19_B : List Nat := [0, 1, 0, 7, 15, 0, 0, 64, 0, 448, 960, 0, 0, 0, 6143, 22527, 65535, 131071]
theorem rk19_tab : rtab .any (opsOf Try.f71 19) = rk19_T := by kernel_rfl
theorem rk19_bits : waitsOk rk19_T.2 rk19_B = true := by kernel_rfl
theorem box_not {W : World} {base g : Nat} {cs : Array Value} {t : TypeId} (h : W.heap[g]? = some (.cells cs t (0, 0))) (ht : t ≠ 3) : ¬ (True ∧ base ≤ g ∧ g < W.heap.size ∧ ∃ q, q ∈ 3 :: (Kd.int .i64).E ∧ ∃ cells, W.heap[g]? = some (.cells cells q (0, 0))) := by
  rintro ⟨_, _, _, q, hq, cells, h2⟩
  have hq : q ∈ ([3] : List Nat) := hq
  simp only [List.mem_cons, List.not_mem_nil, or_false] at hq
  subst hq
  rw [h] at h2
  injection h2 with h2
  injection h2 with h3 h4
  exact ht h4
theorem iz0 (i : Nat) : 0 ≤ (i : Int) + 1 := by omega
theorem iz1 {i l : Nat} (h : i < l) : (i : Int) + 1 ≤ (l : Int) := by omega
theorem iz2 {i l : Nat} (h : i < l) (hl : l ≤ 8) : wrap64 ((i : Int) + 1) = (i : Int) + 1 := by unfold wrap64; omega
theorem iz3 {i l : Nat} (h : i < l) : (i : Int) < (l : Int) := by omega
theorem iz4 (i : Nat) : 0 ≤ (i : Int) := by omega
theorem iz5 {i l : Nat} (h : ¬ i < l) : ¬ (i : Int) < (l : Int) := by omega
theorem iz6 {i l : Nat} (h : ¬ i < l) (hl : i ≤ l) : i = l := by omega
theorem iz7 {i l : Nat} (h : i < l) (hl : l ≤ 8) : wrap64 ((i : Int) + 1) = ((i + 1 : Nat) : Int) := by unfold wrap64; omega
theorem iz8 {i l g : Nat} (hg : l - i ≤ g + 1) : l - (i + 1) ≤ g := by omega
theorem iz9 {i l : Nat} (h : i < l) : l - i - 1 < l - i := by omega
theorem drop_at {i x l c : Nat} {ad : Addr} {A : Option Addr} (hA : (if c = i + 1 then some ad else some ⟨ad.block, ad.off + (i + 1), none⟩) = A) (hx : x < l - (i + 1)) (hc : l ≤ c) : ∃ a9 : Addr, A = some a9 ∧ ∀ x, ad.add (i + 1 + x) = a9.add x := by
  rw [if_neg (by omega)] at hA
  refine ⟨_, hA.symm, fun x => ?_⟩
  rw [← Addr.add_add]
  rfl
theorem lt_far {x : Int} (hx : 0 ≤ x ∧ x ≤ 99999) (h : ¬ x = 99999) : x < 99999 := by omega
theorem va_sum {x y : Int} (hx : 0 ≤ x ∧ x ≤ 99999) (hy : 0 ≤ y ∧ y ≤ 99999) : wrap64 (x + y) = x + y := by unfold wrap64; omega
theorem iz10 {i x l : Nat} (hx : x < l - (i + 1)) : i + 1 + x < l := by omega
theorem iz11 {i l : Nat} : l - (i + 1) ≤ l := by omega
def impl_rankOf.f (a0_0 : Int) (l0_1 : List S61) (l1 : List Int) : Option (List Int × List (List Int) × List (List Int)) := rkF a0_0 l0_1 l1
set_option maxHeartbeats 8000000 in
set_option maxRecDepth 100000 in
theorem impl_rankOf.callsW (a0_0 : Int) (A0_1 : Option Addr) (c0_1 : Nat) (l0_1 : List S61) (A1 : Option Addr) (c1 : Nat) (l1 : List Int) (r1 : List Int) (r2 r3 : List (List Int)) (w : World) (hr0_1 : Kd.C k61 w A0_1 l0_1.length l0_1) (hc0_1 : l0_1.length ≤ c0_1) (hr1 : Kd.C (Kd.int .i64) w A1 l1.length l1) (hc1 : l1.length ≤ c1) (h : impl_rankOf.f a0_0 l0_1 l1 = some (r1, r2, r3)) :
    Calls Try.prog 71 #[.agg #[.int .i64 a0_0, .slice A0_1 l0_1.length c0_1], .slice A1 l1.length c1] w fun e w' => ∃ v0_ v1_ v2_ : Value, ∃ lo mid : Nat, e = .returned (.agg #[v0_, v1_, v2_]) ∧ Rk3 w' w.heap.size lo mid v0_ v1_ v2_ r1 r2 r3 ∧ Below w.heap.size w w' := by
  have hu35 := Try.underlying35
  have hu61 := Try.underlying61
  have hu37 := Try.underlying37
  have HR0_1 := Aside0.mk hr0_1
  have HC0_1 := Aside0.mk hc0_1
  have HR1 := Aside0.mk hr1
  have HC1 := Aside0.mk hc1
  clear hr0_1 hc0_1 hr1 hc1
  have HB := Aside0.mk (Below.refl w.heap.size w)
  unfold impl_rankOf.f rkF at h
  by_cases hok : netOkB a0_0 l0_1 = true ∧ Ord l1 a0_0
  rotate_left
  · rw [if_neg hok] at h; cases h
  rw [if_pos hok] at h
  have e := Option.some.inj h
  injection e with e1 e
  injection e with e2 e3
  subst e1; subst e2; subst e3
  obtain ⟨hok, hol⟩ := hok
  obtain ⟨n1, n8, nl⟩ := rk_bounds hok
  obtain ⟨ol, ond, oin⟩ := hol
  obtain ⟨n, hn⟩ : ∃ n : Nat, (n : Int) = a0_0 := ⟨a0_0.toNat, by omega⟩
  subst hn
  rw [Int.toNat_natCast]
  have HOK := Aside0.mk hok
  have HNL := Aside0.mk nl
  have HN1 := Aside0.mk n1
  have HN8 := Aside0.mk n8
  have HOL := Aside0.mk ol
  have HND := Aside0.mk ond
  have HIN := Aside0.mk oin
  obtain ⟨kC, eC⟩ := grid_some (n := (n : Int)) (by omega) n8 99999
  obtain ⟨kV, eV⟩ := grid_some (n := (n : Int)) (by omega) n8 (-1)
  rw [Int.toNat_natCast] at eC eV
  have HGC := Aside0.mk eC
  have HGV := Aside0.mk eV
  have HCL := Aside0.mk (show slices_Clone_int.f l1 = some l1 by unfold slices_Clone_int.f; rw [if_pos (by omega)])
  obtain ⟨ad1, ea1, _⟩ := Kd.at_int HR1.out 0 (by omega) (by omega)
  subst ea1
  have HRD := Aside0.mk (show ∀ i : Int, 0 ≤ i → i < l1.length → w.cell? (ad1.add i.toNat) = some (.int .i64 (rd l1 i)) from fun i h0 h1 => by
    obtain ⟨a, e, h⟩ := Kd.at_int HR1.out i h0 h1
    cases e
    exact h)
  have HBX := Aside0.mk (arcG_box hok)
  have HL8 := Aside0.mk (show l1.length ≤ 8 by omega)
  clear h hok nl n1 n8 ol ond oin eC eV
  go_enter Try.func71, Try.ntmps71
  go_wp2_with (first | ((with_reducible refine gate_dst (N := 2) rfl ?_); refine be (cs := #[.int .i64 (n : Int), .slice A0_1 l0_1.length c0_1]) (t := 35) ?_; intro gb2 hg w5 hbox hb; have BK2 := Aside0.mk hbox; have GE2 := gz w hg (uB0 HB); replace HB := Aside0.mk (below_step (uB0 HB) hb); clear hb hbox hg) | ((with_reducible refine gate_dst (N := 4) rfl ?_); refine be (cs := #[.slice none 0 0, .slice none 0 0, .slice none 0 0]) (t := 37) ?_; intro gb4 hg w6 hbox hb; have BK4 := Aside0.mk hbox; have GE4 := gz w hg (uB1 HB GE2.out); replace HB := Aside0.mk (below_step (uB1 HB GE2.out) hb); have NB24 := gl hg BK2; replace BK2 := bb BK2 hb; clear hb hbox hg))
  try go_wp2
  replace BK2 := Aside0.mk (blk_drew BK2.out); replace BK4 := Aside0.mk (blk_drew BK4.out); replace HB := Aside0.mk (below_drew1 HB.out)
  refine start_ (n := 12) (S := fun w' => w'.cell? ⟨gb2, 0, none⟩ = some (.int .i64 (n : Int)) ∧ w'.cell? ⟨gb2, 1, none⟩ = some (.slice A0_1 l0_1.length c0_1)) (ds := [11]) (zt 12 0) (by kernel_rfl) rfl (by kernel_rfl) ⟨(blk_cell BK2.out 0).trans rfl, (blk_cell BK2.out 1).trans rfl⟩ (fun hHeld => ?_)
  refine with_tabW rk1_tab rk1_bits (fun HT_ HW_ => ?_)
  generalize w6.drew = w10 at BK2 BK4 HB hHeld ⊢
  refine qz HT_ 0 ?_; refine qz HT_ 3 ?_; refine qz HT_ 6 ?_; refine qt HT_ HW_ hHeld 4 ?_; refine qt HT_ HW_ hHeld 7 ?_
  refine join_ (σ := Value × Value × Value × Value × Nat × Nat × Nat) 1 (zt 12 2047) (fun s_ => [(16, s_.1), (17, s_.2.1), (20, s_.2.2.1), (23, s_.2.2.2.1), (5, .pointer (some ⟨s_.2.2.2.2.1, 0, none⟩)), (24, .agg #[s_.2.1, s_.2.2.1, s_.2.2.2.1])]) (fun s_ w' => (w'.cell? ⟨gb2, 0, none⟩ = some (.int .i64 (n : Int)) ∧ w'.cell? ⟨gb2, 1, none⟩ = some (.slice A0_1 l0_1.length c0_1)) ∧ (Kd.R (Kd.int .i64) 3 w' w.heap.size (fun k => k < s_.2.2.2.2.2.1) s_.2.1 l1) ∧ (Kd.S (Kd.slice 3 (Kd.int .i64)) 25 w' w.heap.size (fun k => s_.2.2.2.2.2.1 ≤ k ∧ k < s_.2.2.2.2.2.2) s_.2.2.1 (mat n (cst2 99999))) ∧ (Kd.S (Kd.slice 3 (Kd.int .i64)) 25 w' w.heap.size (fun k => s_.2.2.2.2.2.2 ≤ k) s_.2.2.2.1 (mat n (cst2 (-1)))) ∧ (w'.heap[gb2]? = some (.cells #[.int .i64 (n : Int), .slice A0_1 l0_1.length c0_1] 35 (0, 0))) ∧ (w'.heap[gb4]? = some (.cells #[.slice none 0 0, .slice none 0 0, .slice none 0 0] 37 (0, 0))) ∧ (w'.heap[s_.2.2.2.2.1]? = some (.cells #[.slice none 0 0, .slice none 0 0, .slice none 0 0] 37 (0, 0))) ∧ (gb2 ≠ s_.2.2.2.2.1) ∧ (gb4 ≠ s_.2.2.2.2.1) ∧ (w.heap.size ≤ s_.2.2.2.2.1) ∧ (s_.2.2.2.2.2.1 ≤ s_.2.2.2.2.2.2) ∧ (Below w.heap.size w w')) ?_ ?_; rotate_left
  · intro hCont
    refine two_ (i := 1) (j := 10) (Ni := some 16) (Nj := some 5) (zt 12 219) (zt 12 1241) rfl rfl rfl rfl (two_of HT_.out (by kernel_rfl)) (by decide) (by decide) (fun K hK => ?_) (fun K hK => ?_)
    · refine goes_ Try.func106 (by kernel_rfl) rfl #[.slice (some ad1) l1.length c1] (by rfl) rfl rfl ul ?_; with_reducible refine (slices_Clone_int.calls _ _ l1 l1 _ ?side1 ?side2 HCL.out).mono ?_; (case side1 => exact uC HR1 HB); (case side2 => exact HC1.out); rintro e w11 ⟨v16, rfl, ho0, hb⟩; refine ⟨_, rfl, ?_⟩; replace BK2 := Aside0.mk (blk_below BK2.out hb); replace BK4 := Aside0.mk (blk_below BK4.out hb); have hsz := below_size HB.out; replace HB := Aside0.mk (below_step HB.out hb); have R16 := Aside0.mk (Kd.R_lower ho0 hsz); clear ho0 hb hsz
      refine hK.out _ _ ⟨(blk_cell BK2.out 0).trans rfl, (blk_cell BK2.out 1).trans rfl⟩ (fun hHeld => ?_); clear hK K; refine nz ?_
      refine two_ (i := 2) (j := 10) (Ni := some 17) (Nj := some 5) (zt 12 223) (zt 12 1243) rfl rfl rfl rfl (two_of HT_.out (by kernel_rfl)) (by decide) (by decide) (fun K hK => ?_) (fun K hK => ?_)
      · refine goes_ Try.func63 (by kernel_rfl) rfl #[v16] (by rfl) rfl rfl ul ?_; with_reducible refine (slices_Clip_int_int.calls _ v16 l1 l1 w _ HB.out (Kd.R_bound R16.out) rfl).mono ?_; rintro e w12 ⟨v17, rfl, ho0, hb2, hk⟩; refine ⟨_, rfl, ?_⟩; clear R16; replace BK2 := Aside0.mk (blk_kept BK2.out hk (box_not BK2.out (by decide))); replace BK4 := Aside0.mk (blk_kept BK4.out hk (box_not BK4.out (by decide))); clear hk; replace HB := Aside0.mk hb2; have R17 := Aside0.mk ho0; clear ho0 hb2
        obtain ⟨Ao, co, eo⟩ := Kd.R_slice R17.out
        subst eo
        refine hK.out _ _ ⟨(blk_cell BK2.out 0).trans rfl, (blk_cell BK2.out 1).trans rfl⟩ (fun hHeld => ?_); clear hK K; refine nz ?_
        refine two_ (i := 5) (j := 10) (Ni := some 20) (Nj := some 5) (zt 12 255) (zt 12 1247) rfl rfl rfl rfl (two_of HT_.out (by kernel_rfl)) (by decide) (by decide) (fun K hK => ?_) (fun K hK => ?_)
        · refine goes_ Try.func107 (by kernel_rfl) rfl #[.int .i64 (n : Int), .int .i64 99999] (by rfl) rfl rfl ul ?_; with_reducible refine (impl_grid.calls kC (n : Int) 99999 _ _ HGC.out).mono ?_; rintro e w13 ⟨v20, rfl, ho0, hb⟩; refine ⟨_, rfl, ?_⟩; have hsz := below_size HB.out; obtain ⟨lo, hlo⟩ : ∃ lo, lo = w12.heap.size := ⟨_, rfl⟩; replace R17 := Aside0.mk (Kd.R_mono (ok' := fun k => k < lo) (Kd.R_bound R17.out) (fun k hk => by rw [hlo]; exact hk.2.2.1)); replace BK2 := Aside0.mk (blk_below BK2.out hb); replace BK4 := Aside0.mk (blk_below BK4.out hb); replace R17 := Aside0.mk (Kd.R_below R17.out hb); replace HB := Aside0.mk (below_step HB.out hb); have S20 := Aside0.mk (Kd.S_lower (Kd.S_mono (ok' := fun k => lo ≤ k) (Kd.S_bound ho0) (fun k hk => by rw [hlo]; exact hk.2.1)) hsz); have hls : lo ≤ w13.heap.size := by rw [hlo]; exact hb.size
          clear ho0 hb hsz hlo
          obtain ⟨aC, cC, eo⟩ := S_some S20.out (by have := HN1.out; omega)
          subst eo
          refine hK.out _ _ ⟨(blk_cell BK2.out 0).trans rfl, (blk_cell BK2.out 1).trans rfl⟩ (fun hHeld => ?_); clear hK K; refine nz ?_
          refine two_ (i := 8) (j := 10) (Ni := some 23) (Nj := some 5) (zt 12 511) (zt 12 1279) rfl rfl rfl rfl (two_of HT_.out (by kernel_rfl)) (by decide) (by decide) (fun K hK => ?_) (fun K hK => ?_)
          · refine goes_ Try.func107 (by kernel_rfl) rfl #[.int .i64 (n : Int), .int .i64 (-1)] (by rfl) rfl rfl ul ?_; with_reducible refine (impl_grid.calls kV (n : Int) (-1) _ _ HGV.out).mono ?_; rintro e w14 ⟨v23, rfl, ho0, hb⟩; refine ⟨_, rfl, ?_⟩; have hsz := below_size HB.out; obtain ⟨mid, hmid⟩ : ∃ mid, mid = w13.heap.size := ⟨_, rfl⟩; replace S20 := Aside0.mk (Kd.S_mono (ok' := fun k => lo ≤ k ∧ k < mid) (Kd.S_bound S20.out) (fun k hk => ⟨hk.1, by rw [hmid]; exact hk.2.2.1⟩)); replace BK2 := Aside0.mk (blk_below BK2.out hb); replace BK4 := Aside0.mk (blk_below BK4.out hb); replace R17 := Aside0.mk (Kd.R_below R17.out hb); replace S20 := Aside0.mk (Kd.S_below S20.out hb); replace HB := Aside0.mk (below_step HB.out hb); have S23 := Aside0.mk (Kd.S_lower (Kd.S_mono (ok' := fun k => mid ≤ k) (Kd.S_bound ho0) (fun k hk => by rw [hmid]; exact hk.2.1)) hsz); have hlm : lo ≤ mid := by rw [hmid]; exact hls
            clear ho0 hb hsz hmid
            obtain ⟨aV, cV, eo⟩ := S_some S23.out (by have := HN1.out; omega)
            subst eo
            refine hK.out _ _ ⟨(blk_cell BK2.out 0).trans rfl, (blk_cell BK2.out 1).trans rfl⟩ (fun hHeld => ?_); clear hK K; refine nz ?_
            refine qz HT_ 9 ?_
            refine qo HT_ 10 (fun K hK => ?_)
            refine box_step ?hg (N := 5) ?hd (cs := #[.slice none 0 0, .slice none 0 0, .slice none 0 0]) (t := 37) ?hr ?_; (case hd => rfl); (case hg => rfl); (case hr => first | (go_simp; done) | (go_simp; rfl)); intro gb5 hg w15 hbox hb; have NB25 := gl hg BK2; have NB45 := gl hg BK4; have GE5 := gz w hg HB.out; replace BK2 := Aside0.mk (blk_below BK2.out hb); replace BK4 := Aside0.mk (blk_below BK4.out hb); replace R17 := Aside0.mk (Kd.R_below R17.out hb); replace S20 := Aside0.mk (Kd.S_below S20.out hb); replace S23 := Aside0.mk (Kd.S_below S23.out hb); replace HB := Aside0.mk (below_step HB.out hb); have BK5 := Aside0.mk hbox
            clear hbox hb hg
            refine hK.out _ _ ⟨(blk_cell BK2.out 0).trans rfl, (blk_cell BK2.out 1).trans rfl⟩ (fun hHeld => ?_); clear hK K; refine nz ?_
            exact norm_ (by simp only [putAll, Act.put, List.setIfInBounds_toArray, List.set_cons_zero, List.set_cons_succ]) (hCont (v16, .slice Ao l1.length co, .slice (some aC) n cC, .slice (some aV) n cV, gb5, lo, mid) _ ⟨⟨(blk_cell BK2.out 0).trans rfl, (blk_cell BK2.out 1).trans rfl⟩, R17.out, S20.out, S23.out, BK2.out, BK4.out, BK5.out, NB25.out, NB45.out, GE5.out, hlm, HB.out⟩)
          · refine box_step ?hg (N := 5) ?hd (cs := #[.slice none 0 0, .slice none 0 0, .slice none 0 0]) (t := 37) ?hr ?_; (case hd => rfl); (case hg => rfl); (case hr => first | (go_simp; done) | (go_simp; rfl)); intro gb5 hg w16 hbox hb; have NB25 := gl hg BK2; have NB45 := gl hg BK4; have GE5 := gz w hg HB.out; replace hls : lo ≤ w16.heap.size := Nat.le_trans hls hb.size; replace BK2 := Aside0.mk (blk_below BK2.out hb); replace BK4 := Aside0.mk (blk_below BK4.out hb); replace R17 := Aside0.mk (Kd.R_below R17.out hb); replace S20 := Aside0.mk (Kd.S_below S20.out hb); replace HB := Aside0.mk (below_step HB.out hb); have BK5 := Aside0.mk hbox
            clear hbox hb hg
            refine hK.out _ _ ⟨(blk_cell BK2.out 0).trans rfl, (blk_cell BK2.out 1).trans rfl⟩ (fun hHeld => ?_); clear hK K; refine nz ?_
            refine qo HT_ 8 (fun K hK => ?_)
            refine goes_ Try.func107 (by kernel_rfl) rfl #[.int .i64 (n : Int), .int .i64 (-1)] (by rfl) rfl rfl ul ?_; with_reducible refine (impl_grid.calls kV (n : Int) (-1) _ _ HGV.out).mono ?_; rintro e w17 ⟨v23, rfl, ho0, hb⟩; refine ⟨_, rfl, ?_⟩; have hsz := below_size HB.out; obtain ⟨mid, hmid⟩ : ∃ mid, mid = w16.heap.size := ⟨_, rfl⟩; replace S20 := Aside0.mk (Kd.S_mono (ok' := fun k => lo ≤ k ∧ k < mid) (Kd.S_bound S20.out) (fun k hk => ⟨hk.1, by rw [hmid]; exact hk.2.2.1⟩)); replace BK2 := Aside0.mk (blk_below BK2.out hb); replace BK4 := Aside0.mk (blk_below BK4.out hb); replace R17 := Aside0.mk (Kd.R_below R17.out hb); replace S20 := Aside0.mk (Kd.S_below S20.out hb); replace BK5 := Aside0.mk (blk_below BK5.out hb); replace HB := Aside0.mk (below_step HB.out hb); have S23 := Aside0.mk (Kd.S_lower (Kd.S_mono (ok' := fun k => mid ≤ k) (Kd.S_bound ho0) (fun k hk => by rw [hmid]; exact hk.2.1)) hsz); have hlm : lo ≤ mid := by rw [hmid]; exact hls
            clear ho0 hb hsz hmid
            obtain ⟨aV, cV, eo⟩ := S_some S23.out (by have := HN1.out; omega)
            subst eo
            refine hK.out _ _ ⟨(blk_cell BK2.out 0).trans rfl, (blk_cell BK2.out 1).trans rfl⟩ (fun hHeld => ?_); clear hK K; refine nz ?_
            refine qz HT_ 9 ?_
            exact norm_ (by simp only [putAll, Act.put, List.setIfInBounds_toArray, List.set_cons_zero, List.set_cons_succ]) (hCont (v16, .slice Ao l1.length co, .slice (some aC) n cC, .slice (some aV) n cV, gb5, lo, mid) _ ⟨⟨(blk_cell BK2.out 0).trans rfl, (blk_cell BK2.out 1).trans rfl⟩, R17.out, S20.out, S23.out, BK2.out, BK4.out, BK5.out, NB25.out, NB45.out, GE5.out, hlm, HB.out⟩)
        · refine box_step ?hg (N := 5) ?hd (cs := #[.slice none 0 0, .slice none 0 0, .slice none 0 0]) (t := 37) ?hr ?_; (case hd => rfl); (case hg => rfl); (case hr => first | (go_simp; done) | (go_simp; rfl)); intro gb5 hg w18 hbox hb; have NB25 := gl hg BK2; have NB45 := gl hg BK4; have GE5 := gz w hg HB.out; replace BK2 := Aside0.mk (blk_below BK2.out hb); replace BK4 := Aside0.mk (blk_below BK4.out hb); replace R17 := Aside0.mk (Kd.R_below R17.out hb); replace HB := Aside0.mk (below_step HB.out hb); have BK5 := Aside0.mk hbox
          clear hbox hb hg
          refine hK.out _ _ ⟨(blk_cell BK2.out 0).trans rfl, (blk_cell BK2.out 1).trans rfl⟩ (fun hHeld => ?_); clear hK K; refine nz ?_
          refine qo HT_ 5 (fun K hK => ?_)
          refine goes_ Try.func107 (by kernel_rfl) rfl #[.int .i64 (n : Int), .int .i64 99999] (by rfl) rfl rfl ul ?_; with_reducible refine (impl_grid.calls kC (n : Int) 99999 _ _ HGC.out).mono ?_; rintro e w19 ⟨v20, rfl, ho0, hb⟩; refine ⟨_, rfl, ?_⟩; have hsz := below_size HB.out; obtain ⟨lo, hlo⟩ : ∃ lo, lo = w18.heap.size := ⟨_, rfl⟩; replace R17 := Aside0.mk (Kd.R_mono (ok' := fun k => k < lo) (Kd.R_bound R17.out) (fun k hk => by rw [hlo]; exact hk.2.2.1)); replace BK2 := Aside0.mk (blk_below BK2.out hb); replace BK4 := Aside0.mk (blk_below BK4.out hb); replace R17 := Aside0.mk (Kd.R_below R17.out hb); replace BK5 := Aside0.mk (blk_below BK5.out hb); replace HB := Aside0.mk (below_step HB.out hb); have S20 := Aside0.mk (Kd.S_lower (Kd.S_mono (ok' := fun k => lo ≤ k) (Kd.S_bound ho0) (fun k hk => by rw [hlo]; exact hk.2.1)) hsz); have hls : lo ≤ w19.heap.size := by rw [hlo]; exact hb.size
          clear ho0 hb hsz hlo
          obtain ⟨aC, cC, eo⟩ := S_some S20.out (by have := HN1.out; omega)
          subst eo
          refine hK.out _ _ ⟨(blk_cell BK2.out 0).trans rfl, (blk_cell BK2.out 1).trans rfl⟩ (fun hHeld => ?_); clear hK K; refine nz ?_
          refine qo HT_ 8 (fun K hK => ?_)
          refine goes_ Try.func107 (by kernel_rfl) rfl #[.int .i64 (n : Int), .int .i64 (-1)] (by rfl) rfl rfl ul ?_; with_reducible refine (impl_grid.calls kV (n : Int) (-1) _ _ HGV.out).mono ?_; rintro e w20 ⟨v23, rfl, ho0, hb⟩; refine ⟨_, rfl, ?_⟩; have hsz := below_size HB.out; obtain ⟨mid, hmid⟩ : ∃ mid, mid = w19.heap.size := ⟨_, rfl⟩; replace S20 := Aside0.mk (Kd.S_mono (ok' := fun k => lo ≤ k ∧ k < mid) (Kd.S_bound S20.out) (fun k hk => ⟨hk.1, by rw [hmid]; exact hk.2.2.1⟩)); replace BK2 := Aside0.mk (blk_below BK2.out hb); replace BK4 := Aside0.mk (blk_below BK4.out hb); replace R17 := Aside0.mk (Kd.R_below R17.out hb); replace BK5 := Aside0.mk (blk_below BK5.out hb); replace S20 := Aside0.mk (Kd.S_below S20.out hb); replace HB := Aside0.mk (below_step HB.out hb); have S23 := Aside0.mk (Kd.S_lower (Kd.S_mono (ok' := fun k => mid ≤ k) (Kd.S_bound ho0) (fun k hk => by rw [hmid]; exact hk.2.1)) hsz); have hlm : lo ≤ mid := by rw [hmid]; exact hls
          clear ho0 hb hsz hmid
          obtain ⟨aV, cV, eo⟩ := S_some S23.out (by have := HN1.out; omega)
          subst eo
          refine hK.out _ _ ⟨(blk_cell BK2.out 0).trans rfl, (blk_cell BK2.out 1).trans rfl⟩ (fun hHeld => ?_); clear hK K; refine nz ?_
          refine qz HT_ 9 ?_
          exact norm_ (by simp only [putAll, Act.put, List.setIfInBounds_toArray, List.set_cons_zero, List.set_cons_succ]) (hCont (v16, .slice Ao l1.length co, .slice (some aC) n cC, .slice (some aV) n cV, gb5, lo, mid) _ ⟨⟨(blk_cell BK2.out 0).trans rfl, (blk_cell BK2.out 1).trans rfl⟩, R17.out, S20.out, S23.out, BK2.out, BK4.out, BK5.out, NB25.out, NB45.out, GE5.out, hlm, HB.out⟩)
      · refine box_step ?hg (N := 5) ?hd (cs := #[.slice none 0 0, .slice none 0 0, .slice none 0 0]) (t := 37) ?hr ?_; (case hd => rfl); (case hg => rfl); (case hr => first | (go_simp; done) | (go_simp; rfl)); intro gb5 hg w21 hbox hb; have NB25 := gl hg BK2; have NB45 := gl hg BK4; have GE5 := gz w hg HB.out; replace BK2 := Aside0.mk (blk_below BK2.out hb); replace BK4 := Aside0.mk (blk_below BK4.out hb); replace R16 := Aside0.mk (Kd.R_below R16.out hb); replace HB := Aside0.mk (below_step HB.out hb); have BK5 := Aside0.mk hbox
        clear hbox hb hg
        refine hK.out _ _ ⟨(blk_cell BK2.out 0).trans rfl, (blk_cell BK2.out 1).trans rfl⟩ (fun hHeld => ?_); clear hK K; refine nz ?_
        refine qo HT_ 2 (fun K hK => ?_)
        refine goes_ Try.func63 (by kernel_rfl) rfl #[v16] (by rfl) rfl rfl ul ?_; with_reducible refine (slices_Clip_int_int.calls _ v16 l1 l1 w _ HB.out (Kd.R_bound R16.out) rfl).mono ?_; rintro e w22 ⟨v17, rfl, ho0, hb2, hk⟩; refine ⟨_, rfl, ?_⟩; clear R16; replace BK2 := Aside0.mk (blk_kept BK2.out hk (box_not BK2.out (by decide))); replace BK4 := Aside0.mk (blk_kept BK4.out hk (box_not BK4.out (by decide))); replace BK5 := Aside0.mk (blk_kept BK5.out hk (box_not BK5.out (by decide))); clear hk; replace HB := Aside0.mk hb2; have R17 := Aside0.mk ho0; clear ho0 hb2
        obtain ⟨Ao, co, eo⟩ := Kd.R_slice R17.out
        subst eo
        refine hK.out _ _ ⟨(blk_cell BK2.out 0).trans rfl, (blk_cell BK2.out 1).trans rfl⟩ (fun hHeld => ?_); clear hK K; refine nz ?_
        refine qo HT_ 5 (fun K hK => ?_)
        refine goes_ Try.func107 (by kernel_rfl) rfl #[.int .i64 (n : Int), .int .i64 99999] (by rfl) rfl rfl ul ?_; with_reducible refine (impl_grid.calls kC (n : Int) 99999 _ _ HGC.out).mono ?_; rintro e w23 ⟨v20, rfl, ho0, hb⟩; refine ⟨_, rfl, ?_⟩; have hsz := below_size HB.out; obtain ⟨lo, hlo⟩ : ∃ lo, lo = w22.heap.size := ⟨_, rfl⟩; replace R17 := Aside0.mk (Kd.R_mono (ok' := fun k => k < lo) (Kd.R_bound R17.out) (fun k hk => by rw [hlo]; exact hk.2.2.1)); replace BK2 := Aside0.mk (blk_below BK2.out hb); replace BK4 := Aside0.mk (blk_below BK4.out hb); replace BK5 := Aside0.mk (blk_below BK5.out hb); replace R17 := Aside0.mk (Kd.R_below R17.out hb); replace HB := Aside0.mk (below_step HB.out hb); have S20 := Aside0.mk (Kd.S_lower (Kd.S_mono (ok' := fun k => lo ≤ k) (Kd.S_bound ho0) (fun k hk => by rw [hlo]; exact hk.2.1)) hsz); have hls : lo ≤ w23.heap.size := by rw [hlo]; exact hb.size
        clear ho0 hb hsz hlo
        obtain ⟨aC, cC, eo⟩ := S_some S20.out (by have := HN1.out; omega)
        subst eo
        refine hK.out _ _ ⟨(blk_cell BK2.out 0).trans rfl, (blk_cell BK2.out 1).trans rfl⟩ (fun hHeld => ?_); clear hK K; refine nz ?_
        refine qo HT_ 8 (fun K hK => ?_)
        refine goes_ Try.func107 (by kernel_rfl) rfl #[.int .i64 (n : Int), .int .i64 (-1)] (by rfl) rfl rfl ul ?_; with_reducible refine (impl_grid.calls kV (n : Int) (-1) _ _ HGV.out).mono ?_; rintro e w24 ⟨v23, rfl, ho0, hb⟩; refine ⟨_, rfl, ?_⟩; have hsz := below_size HB.out; obtain ⟨mid, hmid⟩ : ∃ mid, mid = w23.heap.size := ⟨_, rfl⟩; replace S20 := Aside0.mk (Kd.S_mono (ok' := fun k => lo ≤ k ∧ k < mid) (Kd.S_bound S20.out) (fun k hk => ⟨hk.1, by rw [hmid]; exact hk.2.2.1⟩)); replace BK2 := Aside0.mk (blk_below BK2.out hb); replace BK4 := Aside0.mk (blk_below BK4.out hb); replace BK5 := Aside0.mk (blk_below BK5.out hb); replace R17 := Aside0.mk (Kd.R_below R17.out hb); replace S20 := Aside0.mk (Kd.S_below S20.out hb); replace HB := Aside0.mk (below_step HB.out hb); have S23 := Aside0.mk (Kd.S_lower (Kd.S_mono (ok' := fun k => mid ≤ k) (Kd.S_bound ho0) (fun k hk => by rw [hmid]; exact hk.2.1)) hsz); have hlm : lo ≤ mid := by rw [hmid]; exact hls
        clear ho0 hb hsz hmid
        obtain ⟨aV, cV, eo⟩ := S_some S23.out (by have := HN1.out; omega)
        subst eo
        refine hK.out _ _ ⟨(blk_cell BK2.out 0).trans rfl, (blk_cell BK2.out 1).trans rfl⟩ (fun hHeld => ?_); clear hK K; refine nz ?_
        refine qz HT_ 9 ?_
        exact norm_ (by simp only [putAll, Act.put, List.setIfInBounds_toArray, List.set_cons_zero, List.set_cons_succ]) (hCont (v16, .slice Ao l1.length co, .slice (some aC) n cC, .slice (some aV) n cV, gb5, lo, mid) _ ⟨⟨(blk_cell BK2.out 0).trans rfl, (blk_cell BK2.out 1).trans rfl⟩, R17.out, S20.out, S23.out, BK2.out, BK4.out, BK5.out, NB25.out, NB45.out, GE5.out, hlm, HB.out⟩)
    · refine box_step ?hg (N := 5) ?hd (cs := #[.slice none 0 0, .slice none 0 0, .slice none 0 0]) (t := 37) ?hr ?_; (case hd => rfl); (case hg => rfl); (case hr => first | (go_simp; done) | (go_simp; rfl)); intro gb5 hg w25 hbox hb; have NB25 := gl hg BK2; have NB45 := gl hg BK4; have GE5 := gz w hg HB.out; replace BK2 := Aside0.mk (blk_below BK2.out hb); replace BK4 := Aside0.mk (blk_below BK4.out hb); replace HB := Aside0.mk (below_step HB.out hb); have BK5 := Aside0.mk hbox
      clear hbox hb hg
      refine hK.out _ _ ⟨(blk_cell BK2.out 0).trans rfl, (blk_cell BK2.out 1).trans rfl⟩ (fun hHeld => ?_); clear hK K; refine nz ?_
      refine qo HT_ 1 (fun K hK => ?_)
      refine goes_ Try.func106 (by kernel_rfl) rfl #[.slice (some ad1) l1.length c1] (by rfl) rfl rfl ul ?_; with_reducible refine (slices_Clone_int.calls _ _ l1 l1 _ ?side1 ?side2 HCL.out).mono ?_; (case side1 => exact uC HR1 HB); (case side2 => exact HC1.out); rintro e w26 ⟨v16, rfl, ho0, hb⟩; refine ⟨_, rfl, ?_⟩; replace BK2 := Aside0.mk (blk_below BK2.out hb); replace BK4 := Aside0.mk (blk_below BK4.out hb); replace BK5 := Aside0.mk (blk_below BK5.out hb); have hsz := below_size HB.out; replace HB := Aside0.mk (below_step HB.out hb); have R16 := Aside0.mk (Kd.R_lower ho0 hsz); clear ho0 hb hsz
      refine hK.out _ _ ⟨(blk_cell BK2.out 0).trans rfl, (blk_cell BK2.out 1).trans rfl⟩ (fun hHeld => ?_); clear hK K; refine nz ?_
      refine qo HT_ 2 (fun K hK => ?_)
      refine goes_ Try.func63 (by kernel_rfl) rfl #[v16] (by rfl) rfl rfl ul ?_; with_reducible refine (slices_Clip_int_int.calls _ v16 l1 l1 w _ HB.out (Kd.R_bound R16.out) rfl).mono ?_; rintro e w27 ⟨v17, rfl, ho0, hb2, hk⟩; refine ⟨_, rfl, ?_⟩; clear R16; replace BK2 := Aside0.mk (blk_kept BK2.out hk (box_not BK2.out (by decide))); replace BK4 := Aside0.mk (blk_kept BK4.out hk (box_not BK4.out (by decide))); replace BK5 := Aside0.mk (blk_kept BK5.out hk (box_not BK5.out (by decide))); clear hk; replace HB := Aside0.mk hb2; have R17 := Aside0.mk ho0; clear ho0 hb2
      obtain ⟨Ao, co, eo⟩ := Kd.R_slice R17.out
      subst eo
      refine hK.out _ _ ⟨(blk_cell BK2.out 0).trans rfl, (blk_cell BK2.out 1).trans rfl⟩ (fun hHeld => ?_); clear hK K; refine nz ?_
      refine qo HT_ 5 (fun K hK => ?_)
      refine goes_ Try.func107 (by kernel_rfl) rfl #[.int .i64 (n : Int), .int .i64 99999] (by rfl) rfl rfl ul ?_; with_reducible refine (impl_grid.calls kC (n : Int) 99999 _ _ HGC.out).mono ?_; rintro e w28 ⟨v20, rfl, ho0, hb⟩; refine ⟨_, rfl, ?_⟩; have hsz := below_size HB.out; obtain ⟨lo, hlo⟩ : ∃ lo, lo = w27.heap.size := ⟨_, rfl⟩; replace R17 := Aside0.mk (Kd.R_mono (ok' := fun k => k < lo) (Kd.R_bound R17.out) (fun k hk => by rw [hlo]; exact hk.2.2.1)); replace BK2 := Aside0.mk (blk_below BK2.out hb); replace BK4 := Aside0.mk (blk_below BK4.out hb); replace BK5 := Aside0.mk (blk_below BK5.out hb); replace R17 := Aside0.mk (Kd.R_below R17.out hb); replace HB := Aside0.mk (below_step HB.out hb); have S20 := Aside0.mk (Kd.S_lower (Kd.S_mono (ok' := fun k => lo ≤ k) (Kd.S_bound ho0) (fun k hk => by rw [hlo]; exact hk.2.1)) hsz); have hls : lo ≤ w28.heap.size := by rw [hlo]; exact hb.size
      clear ho0 hb hsz hlo
      obtain ⟨aC, cC, eo⟩ := S_some S20.out (by have := HN1.out; omega)
      subst eo
      refine hK.out _ _ ⟨(blk_cell BK2.out 0).trans rfl, (blk_cell BK2.out 1).trans rfl⟩ (fun hHeld => ?_); clear hK K; refine nz ?_
      refine qo HT_ 8 (fun K hK => ?_)
      refine goes_ Try.func107 (by kernel_rfl) rfl #[.int .i64 (n : Int), .int .i64 (-1)] (by rfl) rfl rfl ul ?_; with_reducible refine (impl_grid.calls kV (n : Int) (-1) _ _ HGV.out).mono ?_; rintro e w29 ⟨v23, rfl, ho0, hb⟩; refine ⟨_, rfl, ?_⟩; have hsz := below_size HB.out; obtain ⟨mid, hmid⟩ : ∃ mid, mid = w28.heap.size := ⟨_, rfl⟩; replace S20 := Aside0.mk (Kd.S_mono (ok' := fun k => lo ≤ k ∧ k < mid) (Kd.S_bound S20.out) (fun k hk => ⟨hk.1, by rw [hmid]; exact hk.2.2.1⟩)); replace BK2 := Aside0.mk (blk_below BK2.out hb); replace BK4 := Aside0.mk (blk_below BK4.out hb); replace BK5 := Aside0.mk (blk_below BK5.out hb); replace R17 := Aside0.mk (Kd.R_below R17.out hb); replace S20 := Aside0.mk (Kd.S_below S20.out hb); replace HB := Aside0.mk (below_step HB.out hb); have S23 := Aside0.mk (Kd.S_lower (Kd.S_mono (ok' := fun k => mid ≤ k) (Kd.S_bound ho0) (fun k hk => by rw [hmid]; exact hk.2.1)) hsz); have hlm : lo ≤ mid := by rw [hmid]; exact hls
      clear ho0 hb hsz hmid
      obtain ⟨aV, cV, eo⟩ := S_some S23.out (by have := HN1.out; omega)
      subst eo
      refine hK.out _ _ ⟨(blk_cell BK2.out 0).trans rfl, (blk_cell BK2.out 1).trans rfl⟩ (fun hHeld => ?_); clear hK K; refine nz ?_
      refine qz HT_ 9 ?_
      exact norm_ (by simp only [putAll, Act.put, List.setIfInBounds_toArray, List.set_cons_zero, List.set_cons_succ]) (hCont (v16, .slice Ao l1.length co, .slice (some aC) n cC, .slice (some aV) n cV, gb5, lo, mid) _ ⟨⟨(blk_cell BK2.out 0).trans rfl, (blk_cell BK2.out 1).trans rfl⟩, R17.out, S20.out, S23.out, BK2.out, BK4.out, BK5.out, NB25.out, NB45.out, GE5.out, hlm, HB.out⟩)
  rintro ⟨v16, v17, v20, v23, gb5, lo, mid⟩ w40 ⟨hS_, h0_, h1_, h2_, h3_, h4_, h5_, h6_, h7_, h8_, h9_, h10_⟩
  clear BK2 BK4 HB hHeld
  have R17 : Aside0 (Kd.R (Kd.int .i64) 3 w40 w.heap.size (fun k => k < lo) v17 l1) := ⟨h0_⟩
  have S20 : Aside0 (Kd.S (Kd.slice 3 (Kd.int .i64)) 25 w40 w.heap.size (fun k => lo ≤ k ∧ k < mid) v20 (mat n (cst2 99999))) := ⟨h1_⟩
  have S23 : Aside0 (Kd.S (Kd.slice 3 (Kd.int .i64)) 25 w40 w.heap.size (fun k => mid ≤ k) v23 (mat n (cst2 (-1)))) := ⟨h2_⟩
  have BK2 : Aside0 (w40.heap[gb2]? = some (.cells #[.int .i64 (n : Int), .slice A0_1 l0_1.length c0_1] 35 (0, 0))) := ⟨h3_⟩
  have BK4 : Aside0 (w40.heap[gb4]? = some (.cells #[.slice none 0 0, .slice none 0 0, .slice none 0 0] 37 (0, 0))) := ⟨h4_⟩
  have BK5 : Aside0 (w40.heap[gb5]? = some (.cells #[.slice none 0 0, .slice none 0 0, .slice none 0 0] 37 (0, 0))) := ⟨h5_⟩
  have NB25 : Aside0 (gb2 ≠ gb5) := ⟨h6_⟩
  have NB45 : Aside0 (gb4 ≠ gb5) := ⟨h7_⟩
  have GE5 : Aside0 (w.heap.size ≤ gb5) := ⟨h8_⟩
  have HLM : Aside0 (lo ≤ mid) := ⟨h9_⟩
  have HB : Aside0 (Below w.heap.size w w40) := ⟨h10_⟩
  have hHeld : w40.cell? ⟨gb2, 0, none⟩ = some (.int .i64 (n : Int)) ∧ w40.cell? ⟨gb2, 1, none⟩ = some (.slice A0_1 l0_1.length c0_1) := hS_
  clear h0_ h1_ h2_ h3_ h4_ h5_ h6_ h7_ h8_ h9_ h10_ hS_
  obtain ⟨Ao, co, eo⟩ := Kd.R_slice R17.out
  subst eo
  obtain ⟨aC, cC, eo⟩ := S_some S20.out (by have := HN1.out; omega)
  subst eo
  obtain ⟨aV, cV, eo⟩ := S_some S23.out (by have := HN1.out; omega)
  subst eo
  refine norm_ (a' := ?_) ?_ ?_; rotate_left
  · simp only [putAll, Act.put, List.setIfInBounds_toArray, List.set_cons_zero, List.set_cons_succ]; rfl
  have RK : Aside0 (RkW w [(gb5, #[.slice Ao l1.length co, .slice (some aC) n cC, .slice (some aV) n cV], 37), (gb2, #[.int .i64 (n : Int), .slice A0_1 l0_1.length c0_1], 35), (gb4, #[.slice none 0 0, .slice none 0 0, .slice none 0 0], 37)] [(.slice Ao l1.length co, l1)] lo mid aC cC aV cV n (arcS (l0_1.take 0)) (((w40.setCell ⟨gb5, 0, none⟩ (.slice Ao l1.length co)).setCell ⟨gb5, 1, none⟩ (.slice (some aC) n cC)).setCell ⟨gb5, 2, none⟩ (.slice (some aV) n cV))) := ⟨RkW_make (s := arcS (l0_1.take 0)) R17.out S20.out S23.out (by
    intro p hp
    simp only [List.mem_cons, List.not_mem_nil, or_false] at hp
    rcases hp with rfl | rfl
    · exact ⟨show (35 : Nat) ≠ 3 by decide, show (35 : Nat) ≠ 25 by decide, NB25.out, BK2.out⟩
    · exact ⟨show (37 : Nat) ≠ 3 by decide, show (37 : Nat) ≠ 25 by decide, NB45.out, BK4.out⟩) BK5.out HB.out GE5.out⟩
  refine last_ (i := 11) (N := none) (zt 12 4095) rfl rfl (one_of HT_.out (by kernel_rfl)) (by decide) (fun K hK => ?_)
  have hs0 : w40.cell? ⟨gb5, 0, none⟩ = some (.slice none 0 0) := (blk_cell BK5.out 0).trans rfl
  have hs1 : w40.cell? ⟨gb5, 1, none⟩ = some (.slice none 0 0) := (blk_cell BK5.out 1).trans rfl
  have hs2 : w40.cell? ⟨gb5, 2, none⟩ = some (.slice none 0 0) := (blk_cell BK5.out 2).trans rfl
  have hf0 := blk_frozen BK5.out 0
  have hf1 := blk_frozen BK5.out 1
  have hf2 := blk_frozen BK5.out 2
  refine skip_ (w1 := ?_) (by rfl) rfl ?_ ?_; rotate_left
  · go_simp; rfl
  refine hK.out _ _ ?_; clear hK K; refine done_ (done_of HT_.out (by kernel_rfl)) ?_
  clear HT_ HW_ hHeld hs0 hs1 hs2 hf0 hf1 hf2 R17 S20 S23 BK2 BK4 BK5 NB25 NB45 GE5 HB NB24
  generalize (((w40.setCell ⟨gb5, 0, none⟩ (.slice Ao l1.length co)).setCell ⟨gb5, 1, none⟩ (.slice (some aC) n cC)).setCell ⟨gb5, 2, none⟩ (.slice (some aV) n cV)) = w41 at RK ⊢
  have BK2 : Aside0 (w41.heap[gb2]? = some (.cells #[.int .i64 (n : Int), .slice A0_1 l0_1.length c0_1] 35 (0, 0))) := ⟨(RK.out.hX (gb2, #[.int .i64 (n : Int), .slice A0_1 l0_1.length c0_1], 35) (by simp)).2.2⟩
  obtain ⟨hz0, hz1, hf0, hf1⟩ := bc2 BK2
  go_wp2
  clear hz0 hz1 hf0 hf1 BK2
  go_loopg [28] l0_1.length (fun gg s28 wr => ∃ j : Nat, s28 = .int .i64 (j : Int) ∧ j ≤ l0_1.length ∧ l0_1.length - j ≤ gg ∧ Aside0 (RkW w [(gb5, #[.slice Ao l1.length co, .slice (some aC) n cC, .slice (some aV) n cV], 37), (gb2, #[.int .i64 (n : Int), .slice A0_1 l0_1.length c0_1], 35), (gb4, #[.slice none 0 0, .slice none 0 0, .slice none 0 0], 37)] [(.slice Ao l1.length co, l1)] lo mid aC cC aV cV n (arcS (l0_1.take j)) wr))
  case atStart => exact ⟨0, rfl, Nat.zero_le _, Nat.le_refl _, RK⟩
  case round =>
    clear RK
    obtain ⟨j, rfl, hjl, hgj, RK⟩ := hrel
    by_cases hj : j < l0_1.length
    · have hjz := dl (show (j : Int) < (l0_1.length : Int) by omega)
      have hin := rk_arc HOK.out (List.getElem_mem hj)
      have hsx := arcG_succ l0_1 j hj
      obtain ⟨ad, e105, hx0, hx1, hx2, hx3, hx4⟩ := at_T61 HR0_1.out (j : Int) (by omega) (by omega)
      cases e105
      rw [rd_T61_at l0_1 j hj] at hx0 hx1 hx2 hx3 hx4
      generalize l0_1[j] = x at hin hsx hx0 hx1 hx2 hx3 hx4
      obtain ⟨x0, x1, x2, x3, x4⟩ := x
      dsimp only at hin hsx hx0 hx1 hx2 hx3 hx4
      have hB_ := Aside0.mk RK.out.hB
      replace hx0 := uc hB_ hx0; replace hx1 := uc hB_ hx1; replace hx2 := uc hB_ hx2; replace hx3 := uc hB_ hx3; replace hx4 := uc hB_ hx4
      have p105 := eq_true (show 0 ≤ (j : Int) by omega)
      have q105 := eq_true (show (j : Int) < (l0_1.length : Int) by omega)
      have HJ := Aside0.mk hj
      have HSX := Aside0.mk hsx
      obtain ⟨i0, i1, i2, i3, _, i4, i5⟩ := hin
      have I0 := Aside0.mk i0; have I1 := Aside0.mk i1; have I2 := Aside0.mk i2; have I3 := Aside0.mk i3
      clear hj hsx i0 i1 i2 i3 i4 i5
      simp only [Int.toNat_natCast] at hx0 hx1 hx2 hx3 hx4
      go_wp2_with (first | ((with_reducible refine gate_dst (N := 7) rfl ?_); refine be (cs := #[.int .i64 0, .int .i64 0, .int .i64 0, .int .i64 0, .int .i64 0]) (t := 61) ?_; intro gb7 hg w15 hbox hb; have NE7 := Aside0.mk (RK.out.fresh hg); have GE7 : Aside0 (w.heap.size ≤ gb7) := ⟨by rw [hg]; exact below_size RK.out.hB⟩; replace RK := Aside0.mk (RK.out.below hb); have BK7 := Aside0.mk hbox; clear hb hbox hg hB_; obtain ⟨hcz0, hcz1, hcz2, hcz3, hcz4, hfz0, hfz1, hfz2, hfz3, hfz4⟩ := bc5 BK7))
      have n0_ := Aside0.mk (RK.out.set5 (t := 61) (by decide) BK7.out NE7.out GE7.out (.int .i64 x0) (.int .i64 x1) (.int .i64 x2) (.int .i64 x3) (.int .i64 x4))
      have n1_ : Aside0 ((((((w15.setCell ⟨gb7, 0, none⟩ (.int .i64 x0)).setCell ⟨gb7, 1, none⟩ (.int .i64 x1)).setCell ⟨gb7, 2, none⟩ (.int .i64 x2)).setCell ⟨gb7, 3, none⟩ (.int .i64 x3)).setCell ⟨gb7, 4, none⟩ (.int .i64 x4)).heap[gb7]? = some (.cells #[.int .i64 x0, .int .i64 x1, .int .i64 x2, .int .i64 x3, .int .i64 x4] 61 (0, 0))) := ⟨pu5 _ _ _ _ _ BK7.out⟩
      clear RK BK7 hcz0 hcz1 hcz2 hcz3 hcz4 hfz0 hfz1 hfz2 hfz3 hfz4 hx0 hx1 hx2 hx3 hx4
      generalize (((((w15.setCell ⟨gb7, 0, none⟩ (.int .i64 x0)).setCell ⟨gb7, 1, none⟩ (.int .i64 x1)).setCell ⟨gb7, 2, none⟩ (.int .i64 x2)).setCell ⟨gb7, 3, none⟩ (.int .i64 x3)).setCell ⟨gb7, 4, none⟩ (.int .i64 x4)) = w18 at n0_ n1_ ⊢
      have RK := Aside0.mk n0_.out.drew; have BK7 := Aside0.mk (blk_drew n1_.out)
      clear n0_ n1_
      have BK5 : Aside0 (w18.drew.heap[gb5]? = some (.cells #[.slice Ao l1.length co, .slice (some aC) n cC, .slice (some aV) n cV] 37 (0, 0))) := ⟨(RK.out.hX (gb5, #[.slice Ao l1.length co, .slice (some aC) n cC, .slice (some aV) n cV], 37) (by simp)).2.2⟩
      obtain ⟨g, c, hx5, hcell⟩ := RK.out.hdC I0.out I1.out
      have hx6 := hcell x1 I2.out I3.out
      have hput := RK.out.putC I0.out I1.out I2.out I3.out hx5 (mn (arcG (l0_1.take j) x0 x1) x2)
      have hsv : (arcS (l0_1.take j)).1 x0 x1 = arcG (l0_1.take j) x0 x1 := rfl
      have hss : (upd (arcS (l0_1.take j)).1 x0 x1 (mn (arcG (l0_1.take j) x0 x1) x2), (arcS (l0_1.take j)).2) = arcS (l0_1.take (j + 1)) := by unfold arcS; rw [HSX.out]
      rw [hss] at hput
      rw [hsv] at hx6
      have hfz := hput.1
      have HP := Aside0.mk hput.2
      clear hput hcell hss hsv HSX
      obtain ⟨v0, hv0⟩ : ∃ v0, arcG (l0_1.take j) x0 x1 = v0 := ⟨_, rfl⟩
      obtain ⟨ji, hji⟩ : ∃ ji, mn v0 x2 = ji := ⟨_, rfl⟩
      rw [hv0] at hx6 HP
      rw [hji] at HP
      have hji_ : (if x2 < v0 then x2 else v0) = ji := hji
      have z0 := eq_true I0.out; have z1 := eq_true I1.out; have z2 := eq_true I2.out; have z3 := eq_true I3.out
      clear hv0 hji
      refine start_ (n := 23) (S := fun w' => w'.cell? ⟨gb5, 1, none⟩ = some (.slice (some aC) n cC) ∧ w'.cell? ⟨gb7, 0, none⟩ = some (.int .i64 x0) ∧ w'.cell? ⟨gb7, 1, none⟩ = some (.int .i64 x1) ∧ w'.cell? ⟨gb7, 2, none⟩ = some (.int .i64 x2) ∧ w'.cell? (aC.add x0.toNat) = some (.slice (some ⟨g, 0, none⟩) n c) ∧ w'.cell? ⟨g, x1.toNat, none⟩ = some (.int .i64 v0)) (ds := [22]) (zt 23 0) (by kernel_rfl) rfl (by kernel_rfl) ⟨(blk_cell BK5.out 1).trans rfl, (blk_cell BK7.out 0).trans rfl, (blk_cell BK7.out 1).trans rfl, (blk_cell BK7.out 2).trans rfl, hx5, hx6⟩ (fun hHeld => ?_)
      refine with_tabW rk5_tab rk5_bits (fun HT_ HW_ => ?_)
      clear BK5
      generalize w18.drew = w19 at RK BK7 hHeld HP hx5 hx6 hfz ⊢
      refine qz HT_ 0 ?_; refine qz HT_ 2 ?_; refine qz HT_ 6 ?_; refine qz HT_ 8 ?_; refine qz HT_ 10 ?_; refine qz HT_ 14 ?_; refine qz HT_ 18 ?_; refine qt HT_ HW_ hHeld 1 ?_; refine qt HT_ HW_ hHeld 3 ?_; refine qz HT_ 4 ?_; refine qt HT_ HW_ hHeld 5 ?_; refine qt HT_ HW_ hHeld 7 ?_; refine qt HT_ HW_ hHeld 9 ?_; refine qt HT_ HW_ hHeld 11 ?_; refine qz HT_ 12 ?_; refine qt HT_ HW_ hHeld 13 ?_; refine qt HT_ HW_ hHeld 15 ?_; refine qz HT_ 16 ?_; refine qt HT_ HW_ hHeld 17 ?_; refine qt HT_ HW_ hHeld 19 ?_; refine qz HT_ 20 ?_; refine qz HT_ 21 ?_
      refine last_ (i := 22) (N := none) (zt 23 8388607) rfl rfl (one_of HT_.out (by kernel_rfl)) (by decide) (fun K hK => ?_); refine skip_ (w1 := ?_) (by rfl) rfl ?_ ?_; rotate_left
      · go_simp; rfl
      refine hK.out _ _ ?_; clear hK K; refine done_ (done_of HT_.out (by kernel_rfl)) ?_
      clear HT_ HW_ hHeld hx5 hx6 hfz
      try go_wp2
      go_roundg (l0_1.length - j - 1)
      case measure => have h8 := HJ.out; omega
      case rel => exact ⟨j + 1, congrArg (Value.int .i64) (by have h9 := HNL.out; have h8 := HJ.out; first | omega | (unfold wrap64; omega)), (by have h8 := HJ.out; omega), by omega, HP⟩
    · have hjz := DL (show ¬ (j : Int) < (l0_1.length : Int) by omega)
      obtain rfl : j = l0_1.length := by omega
      rw [List.take_length] at RK
      go_wp2
      go_loopg [57] l1.length (fun gg s57 wr => ∃ i : Nat, s57 = .int .i64 (i : Int) ∧ i ≤ l1.length ∧ l1.length - i ≤ gg ∧ Aside0 (RkW w [(gb5, #[.slice Ao l1.length co, .slice (some aC) n cC, .slice (some aV) n cV], 37), (gb2, #[.int .i64 (n : Int), .slice A0_1 l0_1.length c0_1], 35), (gb4, #[.slice none 0 0, .slice none 0 0, .slice none 0 0], 37)] [(.slice Ao l1.length co, l1)] lo mid aC cC aV cV n (ndS l1 (arcS l0_1) i) wr))
      case atStart => exact ⟨0, rfl, Nat.zero_le _, Nat.le_refl _, RK⟩
      case round =>
        clear RK
        obtain ⟨i, rfl, hil, hgi, RK⟩ := hrel
        by_cases hi : i < l1.length
        · have hiz := dl (iz3 hi)
          have hx9 := HRD.out (i : Int) (iz4 i) (iz3 hi)
          have hB_ := Aside0.mk RK.out.hB
          replace hx9 := uc hB_ hx9
          simp only [Int.toNat_natCast] at hx9
          have p1 := eq_true (iz4 i)
          have p2 := eq_true (iz3 hi)
          have hm := HIN.out (rd l1 (i : Int)) (by rw [rd_at0 l1 i hi]; exact List.getElem_mem hi)
          have HM0 := Aside0.mk hm.1; have HM1 := Aside0.mk hm.2
          have HI := Aside0.mk hi
          have HIL := Aside0.mk hil
          have HGI := Aside0.mk hgi
          obtain ⟨m, hm_⟩ : ∃ m, rd l1 (i : Int) = m := ⟨_, rfl⟩
          rw [hm_] at hx9 HM0 HM1
          have HMD := Aside0.mk hm_
          have hw1 := iz2 hi HL8.out
          have p3 := eq_true (iz0 i)
          have p4 := eq_true (iz1 hi)
          obtain ⟨L, hL⟩ : ∃ L, l1.length - (i + 1) = L := ⟨_, rfl⟩
          have HL := Aside0.mk hL
          have HLL := Aside0.mk (show L ≤ 8 from hL ▸ Nat.le_trans iz11 HL8.out)
          obtain ⟨A9, hA9⟩ : ∃ A9, (if c1 = i + 1 then some ad1 else some ⟨ad1.block, ad1.off + (i + 1), none⟩) = A9 := ⟨_, rfl⟩
          have HA9 := Aside0.mk hA9
          clear hm hm_ hi hil hgi hB_
          go_wp2
          go_loopg [67] L (fun gg s67 wr => ∃ x : Nat, s67 = .int .i64 (x : Int) ∧ x ≤ L ∧ L - x ≤ gg ∧ Aside0 (RkW w [(gb5, #[.slice Ao l1.length co, .slice (some aC) n cC, .slice (some aV) n cV], 37), (gb2, #[.int .i64 (n : Int), .slice A0_1 l0_1.length c0_1], 35), (gb4, #[.slice none 0 0, .slice none 0 0, .slice none 0 0], 37)] [(.slice Ao l1.length co, l1)] lo mid aC cC aV cV n (rwS l1 (ndS l1 (arcS l0_1) i) i x) wr))
          case atStart => exact ⟨0, rfl, Nat.zero_le _, Nat.le_refl _, RK⟩
          case round =>
            clear RK hx9
            obtain ⟨x, rfl, hxl, hgx, RK⟩ := hrel
            by_cases hx : x < L
            · have hxz := dl (iz3 hx)
              have hxL : x < l1.length - (i + 1) := by rw [HL.out]; exact hx
              have hix := iz10 hxL
              obtain ⟨a9, eA9, hadd⟩ := drop_at HA9.out hxL HC1.out
              subst eA9
              have HADD := Aside0.mk hadd
              have hx10 := HRD.out ((i + 1 + x : Nat) : Int) (iz4 _) (iz3 hix)
              rw [Int.toNat_natCast, HADD.out] at hx10
              have hB_ := Aside0.mk RK.out.hB
              replace hx10 := uc hB_ hx10
              have q1 := eq_true (iz4 x)
              have q2 := eq_true (iz3 hx)
              have ha := HIN.out (rd l1 ((i + 1 + x : Nat) : Int)) (by rw [rd_at0 l1 _ hix]; exact List.getElem_mem hix)
              have hsx := rwS_succ l1 (ndS l1 (arcS l0_1) i) i x hix
              obtain ⟨a, ha_⟩ : ∃ a, rd l1 ((i + 1 + x : Nat) : Int) = a := ⟨_, rfl⟩
              rw [ha_] at hx10 ha hsx
              rw [HMD.out] at hsx
              have HA0 := Aside0.mk ha.1; have HA1 := Aside0.mk ha.2
              have HX := Aside0.mk hx; have HXL := Aside0.mk hxl; have HGX := Aside0.mk hgx; have HSX := Aside0.mk hsx
              clear hx hxL hix ha ha_ hsx hB_ hxl hgx hadd
              go_wp2
              clear hx10 hw1 hA9 p3 p4 hL
              go_loopg [76] L (fun gg s76 wr => ∃ y : Nat, s76 = .int .i64 (y : Int) ∧ y ≤ L ∧ L - y ≤ gg ∧ Aside0 (RkW w [(gb5, #[.slice Ao l1.length co, .slice (some aC) n cC, .slice (some aV) n cV], 37), (gb2, #[.int .i64 (n : Int), .slice A0_1 l0_1.length c0_1], 35), (gb4, #[.slice none 0 0, .slice none 0 0, .slice none 0 0], 37)] [(.slice Ao l1.length co, l1)] lo mid aC cC aV cV n (abS l1 (rwS l1 (ndS l1 (arcS l0_1) i) i x) i a y) wr))
              case atStart => exact ⟨0, rfl, Nat.zero_le _, Nat.le_refl _, RK⟩
              case round =>
                clear RK
                obtain ⟨y, rfl, hyl, hgy, RK⟩ := hrel
                by_cases hy : y < L
                · have hyz := dl (iz3 hy)
                  have hyL : y < l1.length - (i + 1) := by rw [HL.out]; exact hy
                  have hiy := iz10 hyL
                  have hx11 := HRD.out ((i + 1 + y : Nat) : Int) (iz4 _) (iz3 hiy)
                  rw [Int.toNat_natCast, HADD.out] at hx11
                  have hB_ := Aside0.mk RK.out.hB
                  replace hx11 := uc hB_ hx11
                  have r1 := eq_true (iz4 y)
                  have r2 := eq_true (iz3 hy)
                  have hb := HIN.out (rd l1 ((i + 1 + y : Nat) : Int)) (by rw [rd_at0 l1 _ hiy]; exact List.getElem_mem hiy)
                  have hsy := abS_succ l1 (rwS l1 (ndS l1 (arcS l0_1) i) i x) i a y hiy
                  obtain ⟨b, hb_⟩ : ∃ b, rd l1 ((i + 1 + y : Nat) : Int) = b := ⟨_, rfl⟩
                  rw [hb_] at hx11 hb hsy
                  rw [HMD.out] at hsy
                  have HB0 := Aside0.mk hb.1; have HB1 := Aside0.mk hb.2
                  have HY := Aside0.mk hy; have HYL := Aside0.mk hyl; have HGY := Aside0.mk hgy; have HSY := Aside0.mk hsy
                  have HBOX : Aside0 (Box (abS l1 (rwS l1 (ndS l1 (arcS l0_1) i) i x) i a y)) := ⟨abS_box (rwS_box (ndS_box HBX.out i) i x) i a y⟩
                  clear hy hyL hiy hb hb_ hsy hB_ hyl hgy
                  have BK5 : Aside0 (wr.heap[gb5]? = some (.cells #[.slice Ao l1.length co, .slice (some aC) n cC, .slice (some aV) n cV] 37 (0, 0))) := ⟨(RK.out.hX (gb5, #[.slice Ao l1.length co, .slice (some aC) n cC, .slice (some aV) n cV], 37) (by simp)).2.2⟩
                  obtain ⟨hz0, hz1, hz2, hf0, hf1, hf2⟩ := bc3 BK5
                  obtain ⟨gA, cA, hxA, hcA⟩ := RK.out.hdC HA0.out HA1.out
                  obtain ⟨gM, cM, hxM, hcM⟩ := RK.out.hdC HM0.out HM1.out
                  have hAM := hcA m HM0.out HM1.out
                  have hAB := hcA b HB0.out HB1.out
                  have hMB := hcM b HB0.out HB1.out
                  clear hcA hcM
                  have HBAM := Aside0.mk (HBOX.out a m)
                  have HBMB := Aside0.mk (HBOX.out m b)
                  clear HBOX
                  obtain ⟨S, hS⟩ : ∃ S, (abS l1 (rwS l1 (ndS l1 (arcS l0_1) i) i x) i a y) = S := ⟨_, rfl⟩
                  rw [hS] at RK HSY hAM hAB hMB HBAM HBMB
                  clear hS
                  obtain ⟨va, hva⟩ : ∃ va, S.1 a m = va := ⟨_, rfl⟩
                  obtain ⟨vb, hvb⟩ : ∃ vb, S.1 m b = vb := ⟨_, rfl⟩
                  obtain ⟨vc, hvc⟩ : ∃ vc, S.1 a b = vc := ⟨_, rfl⟩
                  rw [hva] at hAM HBAM
                  rw [hvb] at hMB HBMB
                  rw [hvc] at hAB
                  have HVA := Aside0.mk hva; have HVB := Aside0.mk hvb; have HVC := Aside0.mk hvc
                  clear hva hvb hvc
                  have z0 := eq_true HA0.out; have z1 := eq_true HA1.out; have z2 := eq_true HB0.out; have z3 := eq_true HB1.out; have z4 := eq_true HM0.out; have z5 := eq_true HM1.out
                  by_cases c1 : a = b
                  · obtain ⟨c1b0, c1b1⟩ := dq c1
                    have HNX := Aside0.mk (HSY.out.trans (rkAB_no (fun h => h.1 c1)))
                    clear c1
                    go_wp2
                    go_roundg (L - y - 1)
                    case measure => exact Nat.lt_of_lt_of_le (iz9 HY.out) HGY.out
                    case rel => exact ⟨y + 1, congrArg (Value.int .i64) (iz7 HY.out HLL.out), HY.out, Nat.le_refl _, ⟨by rw [HNX.out]; exact RK.out⟩⟩
                  · obtain ⟨c1b0, c1b1⟩ := dQ c1
                    by_cases c2 : va = 99999
                    · obtain ⟨c2b0, c2b1⟩ := dq c2
                      have HNX := Aside0.mk (HSY.out.trans (rkAB_no (fun h => by have h9 := h.2.1; rw [HVA.out, c2] at h9; exact absurd h9 (by decide))))
                      clear c1 c2
                      go_wp2
                      go_roundg (L - y - 1)
                      case measure => exact Nat.lt_of_lt_of_le (iz9 HY.out) HGY.out
                      case rel => exact ⟨y + 1, congrArg (Value.int .i64) (iz7 HY.out HLL.out), HY.out, Nat.le_refl _, ⟨by rw [HNX.out]; exact RK.out⟩⟩
                    · obtain ⟨c2b0, c2b1⟩ := dQ c2
                      by_cases c3 : vb = 99999
                      · obtain ⟨c3b0, c3b1⟩ := dq c3
                        have HNX := Aside0.mk (HSY.out.trans (rkAB_no (fun h => by have h9 := h.2.2.1; rw [HVB.out, c3] at h9; exact absurd h9 (by decide))))
                        clear c1 c2 c3
                        go_wp2
                        go_roundg (L - y - 1)
                        case measure => exact Nat.lt_of_lt_of_le (iz9 HY.out) HGY.out
                        case rel => exact ⟨y + 1, congrArg (Value.int .i64) (iz7 HY.out HLL.out), HY.out, Nat.le_refl _, ⟨by rw [HNX.out]; exact RK.out⟩⟩
                      · obtain ⟨c3b0, c3b1⟩ := dQ c3
                        have C1 := Aside0.mk c1; have C2 := Aside0.mk c2; have C3 := Aside0.mk c3
                        clear c1 c2 c3
                        try go_wp2
                        have hsum := va_sum HBAM.out HBMB.out
                        clear hxA hxM hz0 hz1 hz2 hf0 hf1 hf2 hAB hAM hMB BK5
                        replace RK := Aside0.mk RK.out.drew
                        have BK5 : Aside0 (wr.drew.heap[gb5]? = some (.cells #[.slice Ao l1.length co, .slice (some aC) n cC, .slice (some aV) n cV] 37 (0, 0))) := ⟨(RK.out.hX (gb5, #[.slice Ao l1.length co, .slice (some aC) n cC, .slice (some aV) n cV], 37) (by simp)).2.2⟩
                        obtain ⟨gA, cA, hxA, hcA⟩ := RK.out.hdC HA0.out HA1.out
                        obtain ⟨gM, cM, hxM, hcM⟩ := RK.out.hdC HM0.out HM1.out
                        have hAM := hcA m HM0.out HM1.out
                        have hAB := hcA b HB0.out HB1.out
                        have hMB := hcM b HB0.out HB1.out
                        rw [HVA.out] at hAM; rw [HVB.out] at hMB; rw [HVC.out] at hAB
                        clear hcA hcM
                        refine start_ (n := 18) (S := fun w' => w'.cell? ⟨gb5, 1, none⟩ = some (.slice (some aC) n cC) ∧ w'.cell? (aC.add a.toNat) = some (.slice (some ⟨gA, 0, none⟩) n cA) ∧ w'.cell? (aC.add m.toNat) = some (.slice (some ⟨gM, 0, none⟩) n cM) ∧ w'.cell? ⟨gA, m.toNat, none⟩ = some (.int .i64 va) ∧ w'.cell? ⟨gM, b.toNat, none⟩ = some (.int .i64 vb)) (ds := []) (zt 18 0) (by kernel_rfl) rfl (by kernel_rfl) ⟨(blk_cell BK5.out 1).trans rfl, hxA, hxM, hAM, hMB⟩ (fun hHeld => ?_)
                        refine with_tabW rk17_tab rk17_bits (fun HT_ HW_ => ?_)
                        generalize wr.drew = w50 at RK BK5 hHeld hxA hxM hAM hAB hMB ⊢
                        refine qz HT_ 0 ?_; refine qz HT_ 2 ?_; refine qz HT_ 5 ?_; refine qz HT_ 8 ?_; refine qz HT_ 10 ?_; refine qz HT_ 13 ?_; refine qt HT_ HW_ hHeld 1 ?_; refine qz HT_ 3 ?_; refine qt HT_ HW_ hHeld 4 ?_; refine qz HT_ 6 ?_; refine qt HT_ HW_ hHeld 7 ?_; refine qt HT_ HW_ hHeld 9 ?_; refine qz HT_ 11 ?_; refine qt HT_ HW_ hHeld 12 ?_; refine qz HT_ 14 ?_; refine qt HT_ HW_ hHeld 15 ?_; refine qz HT_ 16 ?_; refine qz HT_ 17 ?_
                        refine done_ (done_of HT_.out (by kernel_rfl)) ?_
                        clear HT_ HW_ hHeld
                        obtain ⟨hz0, hz1, hz2, hf0, hf1, hf2⟩ := bc3 BK5
                        by_cases c4 : va + vb < vc
                        · have c4d := dl c4
                          have C4 := Aside0.mk c4
                          clear c4
                          try go_wp2
                          clear hz0 hz1 hz2 hf0 hf1 hf2 BK5 hxM hAM hMB hxA hAB
                          replace RK := Aside0.mk RK.out.drew
                          have BK5 : Aside0 (w50.drew.heap[gb5]? = some (.cells #[.slice Ao l1.length co, .slice (some aC) n cC, .slice (some aV) n cV] 37 (0, 0))) := ⟨(RK.out.hX (gb5, #[.slice Ao l1.length co, .slice (some aC) n cC, .slice (some aV) n cV], 37) (by simp)).2.2⟩
                          obtain ⟨gA, cA, hxA, hcA⟩ := RK.out.hdC HA0.out HA1.out
                          obtain ⟨gV, cV_, hxV, _⟩ := RK.out.hdV HA0.out HA1.out
                          have hAB := hcA b HB0.out HB1.out
                          clear hcA
                          have hput := RK.out.putC HA0.out HA1.out HB0.out HB1.out hxA (va + vb)
                          have hfA := hput.1
                          have RK1 := Aside0.mk hput.2
                          clear hput
                          refine start_ (n := 18) (S := fun w' => w'.cell? ⟨gb5, 1, none⟩ = some (.slice (some aC) n cC) ∧ w'.cell? ⟨gb5, 2, none⟩ = some (.slice (some aV) n cV) ∧ w'.cell? (aC.add a.toNat) = some (.slice (some ⟨gA, 0, none⟩) n cA) ∧ w'.cell? (aV.add a.toNat) = some (.slice (some ⟨gV, 0, none⟩) n cV_)) (ds := [17]) (zt 18 0) (by kernel_rfl) rfl (by kernel_rfl) ⟨(blk_cell BK5.out 1).trans rfl, (blk_cell BK5.out 2).trans rfl, hxA, hxV⟩ (fun hHeld => ?_)
                          refine with_tabW rk19_tab rk19_bits (fun HT_ HW_ => ?_)
                          generalize w50.drew = w51 at RK RK1 BK5 hHeld hxA hxV hAB hfA ⊢
                          refine qz HT_ 0 ?_; refine qz HT_ 2 ?_; refine qz HT_ 5 ?_; refine qz HT_ 6 ?_; refine qz HT_ 8 ?_; refine qz HT_ 11 ?_; refine qz HT_ 12 ?_; refine qz HT_ 13 ?_; refine qt HT_ HW_ hHeld 1 ?_; refine qz HT_ 3 ?_; refine qt HT_ HW_ hHeld 4 ?_; refine qt HT_ HW_ hHeld 7 ?_; refine qz HT_ 9 ?_; refine qt HT_ HW_ hHeld 10 ?_; refine qz HT_ 14 ?_
                          refine qo HT_ 15 (fun K hK => ?_)
                          refine skip_ (w1 := ?_) (by rfl) rfl ?_ ?_; rotate_left
                          · go_simp; rfl
                          refine hK.out _ _ ⟨cell_stays hAB hHeld.1, cell_stays hAB hHeld.2.1, cell_stays hAB hHeld.2.2.1, cell_stays hAB hHeld.2.2.2⟩ (fun hHeld => ?_); clear hK K
                          have hxV1 := hHeld.2.2.2
                          obtain ⟨gV', cV', hxV', hcV⟩ := RK1.out.hdV HA0.out HA1.out
                          rw [hxV1] at hxV'
                          cases hxV'
                          have hVB := hcV b HB0.out HB1.out
                          have hput := RK1.out.putV HA0.out HA1.out HB0.out HB1.out HLM.out hxV1 m
                          have hfV := hput.1
                          have RK2 := Aside0.mk hput.2
                          clear hput hcV RK RK1 hxA hxV hAB hfA BK5
                          generalize w51.setCell ⟨gA, b.toNat, none⟩ (.int .i64 (va + vb)) = w52 at RK2 hHeld hxV1 hVB hfV ⊢
                          refine qz HT_ 16 ?_
                          refine last_ (i := 17) (N := none) (zt 18 262143) rfl rfl (one_of HT_.out (by kernel_rfl)) (by decide) (fun K hK => ?_); refine skip_ (w1 := ?_) (by rfl) rfl ?_ ?_; rotate_left
                          · go_simp; rfl
                          refine hK.out _ _ ?_; clear hK K; refine done_ (done_of HT_.out (by kernel_rfl)) ?_
                          clear HT_ HW_ hHeld hxV1 hVB hfV
                          have HNX := Aside0.mk (HSY.out.trans (rkAB_yes ⟨C1.out, by rw [HVA.out]; exact lt_far HBAM.out C2.out, by rw [HVB.out]; exact lt_far HBMB.out C3.out, by rw [HVA.out, HVB.out, HVC.out]; exact C4.out⟩))
                          rw [HVA.out, HVB.out] at HNX
                          try go_wp2
                          go_roundg (L - y - 1)
                          case measure => exact Nat.lt_of_lt_of_le (iz9 HY.out) HGY.out
                          case rel => exact ⟨y + 1, congrArg (Value.int .i64) (iz7 HY.out HLL.out), HY.out, Nat.le_refl _, ⟨by rw [HNX.out]; exact RK2.out⟩⟩
                        · have c4d := DL c4
                          have HNX := Aside0.mk (HSY.out.trans (rkAB_no (fun h => by have h9 := h.2.2.2; rw [HVA.out, HVB.out, HVC.out] at h9; exact c4 h9)))
                          clear c4
                          go_wp2
                          go_roundg (L - y - 1)
                          case measure => exact Nat.lt_of_lt_of_le (iz9 HY.out) HGY.out
                          case rel => exact ⟨y + 1, congrArg (Value.int .i64) (iz7 HY.out HLL.out), HY.out, Nat.le_refl _, ⟨by rw [HNX.out]; exact RK.out⟩⟩
                · have hyz := DL (iz5 hy)
                  have hq1 := eq_false (iz5 hy); have hq2 := eq_false hy
                  have ey := iz6 hy hyl
                  rw [ey] at RK
                  have hab := abS_all l1 (rwS l1 (ndS l1 (arcS l0_1) i) i x) i a
                  rw [HMD.out, HL.out] at hab
                  have HNX := Aside0.mk (HSX.out.trans hab.symm)
                  clear hab hy hyl hgy ey
                  go_wp2
                  go_roundg (L - x - 1)
                  case measure => exact Nat.lt_of_lt_of_le (iz9 HX.out) HGX.out
                  case rel => exact ⟨x + 1, congrArg (Value.int .i64) (iz7 HX.out HLL.out), HX.out, Nat.le_refl _, ⟨by rw [HNX.out]; exact RK.out⟩⟩
            · have hxz := DL (iz5 hx)
              have hq1 := eq_false (iz5 hx); have hq2 := eq_false hx
              have ex := iz6 hx hxl
              rw [ex] at RK
              have hrw := rwS_all l1 (ndS l1 (arcS l0_1) i) i
              rw [HL.out] at hrw
              have HNX := Aside0.mk (show ndS l1 (arcS l0_1) (i + 1) = rwS l1 (ndS l1 (arcS l0_1) i) i L from hrw.symm)
              clear hrw hx hxl hgx ex
              go_wp2
              go_roundg (l1.length - i - 1)
              case measure => exact Nat.lt_of_lt_of_le (iz9 HI.out) HGI.out
              case rel => exact ⟨i + 1, congrArg (Value.int .i64) (iz7 HI.out HL8.out), HI.out, Nat.le_refl _, ⟨by rw [HNX.out]; exact RK.out⟩⟩
        · have hiz := DL (iz5 hi)
          have ei := iz6 hi hil
          subst ei
          have hnd := ndS_all l1 (arcS l0_1)
          rw [hnd] at RK
          clear hnd hi hil hgi
          have BK4 : Aside0 (wr.heap[gb4]? = some (.cells #[.slice none 0 0, .slice none 0 0, .slice none 0 0] 37 (0, 0))) := ⟨(RK.out.hX (gb4, #[.slice none 0 0, .slice none 0 0, .slice none 0 0], 37) (by simp)).2.2⟩
          have BK5 : Aside0 (wr.heap[gb5]? = some (.cells #[.slice Ao l1.length co, .slice (some aC) n cC, .slice (some aV) n cV] 37 (0, 0))) := ⟨(RK.out.hX (gb5, #[.slice Ao l1.length co, .slice (some aC) n cC, .slice (some aV) n cV], 37) (by simp)).2.2⟩
          obtain ⟨hz0, hz1, hz2, hf0, hf1, hf2⟩ := bc3 BK5
          obtain ⟨hy0, hy1, hy2, hg0, hg1, hg2⟩ := bc3 BK4
          have HF := Aside0.mk (RK.out.finish HLM.out (v := .slice Ao l1.length co) (l := l1) (by simp) BK4.out GE4.out (.slice Ao l1.length co) (.slice (some aC) n cC) (.slice (some aV) n cV))
          go_wp2
          refine bodyPost_ret (results_cell_row rfl _ _ gb4 37 #[.slice Ao l1.length co, .slice (some aC) n cC, .slice (some aV) n cV] (0, 0) _ rfl (pu3 _ _ _ BK4.out) Try.underlying37 rfl (by kernel_rfl)) rfl ?_
          exact ⟨_, _, _, lo, mid, rfl, HF.out.1, HF.out.2⟩
theorem impl_rankOf.calls (a0_0 : Int) (A0_1 : Option Addr) (c0_1 : Nat) (l0_1 : List S61) (A1 : Option Addr) (c1 : Nat) (l1 : List Int) (r1 : List Int) (r2 r3 : List (List Int)) (w : World) (hr0_1 : Kd.C k61 w A0_1 l0_1.length l0_1) (hc0_1 : l0_1.length ≤ c0_1) (hr1 : Kd.C (Kd.int .i64) w A1 l1.length l1) (hc1 : l1.length ≤ c1) (h : impl_rankOf.f a0_0 l0_1 l1 = some (r1, r2, r3)) :
    Calls Try.prog 71 #[.agg #[.int .i64 a0_0, .slice A0_1 l0_1.length c0_1], .slice A1 l1.length c1] w fun e w' => ∃ v0_ v1_ v2_ : Value, e = .returned (.agg #[v0_, v1_, v2_]) ∧ Kd.R (Kd.int .i64) 3 w' w.heap.size (fun _ => True) v0_ r1 ∧ Kd.S (Kd.slice 3 (Kd.int .i64)) 25 w' w.heap.size (fun k_ => some k_ ≠ (v0_ : Value).ownBlock ∧ some k_ ≠ (v2_ : Value).ownBlock) v1_ r2 ∧ Kd.S (Kd.slice 3 (Kd.int .i64)) 25 w' w.heap.size (fun k_ => some k_ ≠ (v0_ : Value).ownBlock ∧ some k_ ≠ (v1_ : Value).ownBlock) v2_ r3 ∧ Below w.heap.size w w' := by
  refine (impl_rankOf.callsW a0_0 A0_1 c0_1 l0_1 A1 c1 l1 r1 r2 r3 w hr0_1 hc0_1 hr1 hc1 h).mono ?_
  rintro e w' ⟨v0, v1, v2, lo, mid, rfl, h3, hb⟩
  obtain ⟨q0, q1, q2⟩ := h3.weak
  exact ⟨v0, v1, v2, rfl, q0, q1, q2, hb⟩
end Go.Proofs.Ytdlaaccnaokdnaa.P
