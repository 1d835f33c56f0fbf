/- Contract: impl.PlanLate, by hand. -/
import Derived.Test.YtcklifkbodmoaaaHSort
import Derived.Test.YtcklifkbodmoaaaHLibB
import Derived.Test.YtcklifkbodmoaaaMLate
import Derived.Test.YtcklifkbodmoaaaPFImplPlanlate1
set_option linter.unusedVariables false
set_option linter.unusedSimpArgs false
namespace Go.Proofs.Ytcklifkbodmoaaa.P
open Go.RowKit Go.Proofs.YtcklifkbodmoaaaV.PrintWords Go.Proofs.YtcklifkbodmoaaaV.PrintLast Go.Proofs.YtcklifkbodmoaaaV.PrintMore Go.Proofs.Ytcklifkbodmoaaa.M
set_option maxHeartbeats 4000000 in
theorem clip_conn (A : Option Addr) (cap : Nat) (l : List Co) (w : World) (base : Nat) (ok : Nat → Prop) (HR : Kd.R k32 32 w base ok (.slice A l.length cap) l) :
    Calls Try.prog 79 #[.slice A l.length cap] w fun e w' => e = .returned (.slice A l.length l.length) ∧ w' = w := by
  obtain ⟨i03, hi03, _, hsz3, _⟩ := info_parts info32
  have hcut3 : ∀ W : World, (Instr.slice 23 (.slice A l.length cap) none (some (.int .i64 (l.length : Int))) (some (.int .i64 (l.length : Int)))).run Try.prog W = .ok (.slice A l.length l.length) W := cut_clip (P := Try.prog) 23 32 .i64 .i64 Try.underlying23 hi03 _ _ _ (Kd.R_reads' HR).2.1
  clear hi03 hsz3 HR
  go_enter Try.func79, Try.ntmps79
  go_wp2
  go_ret
  exact ⟨rfl, rfl⟩
theorem planLate1_cmp (x y : Co) (W : World) : Calls Try.prog 82 #[.agg #[.int .i64 x.f0, .int .i64 x.f1, .int .i64 x.f2, .int .i64 x.f3, .int .i64 x.f4], .agg #[.int .i64 y.f0, .int .i64 y.f1, .int .i64 y.f2, .int .i64 y.f3, .int .i64 y.f4]] W fun e w' => e = .returned (.int .i64 (cmpG x y)) ∧ Below W.heap.size W w' := by
  refine impl_PlanLate_1.calls _ _ _ _ _ _ _ _ _ _ _ _ ?_
  unfold impl_PlanLate_1.f cmp_Compare_int.f cmp_isNaN_int.f cmpG
  simp
  by_cases h1 : x.f2 < y.f2
  · simp [h1]
  · by_cases h2 : y.f2 < x.f2 <;> simp [h1, h2]
theorem conn_cells {W : World} {base g n cap : Nat} {ok : Nat → Prop} {dk : List Co} (HO : Kd.R k32 32 W base ok (.slice (some ⟨g, 0, none⟩) n cap) dk) {i : Nat} {x : Co} (hx : dk[i]? = some x) :
    W.cell? ⟨g, i * 5, none⟩ = some (.int .i64 x.f0) ∧ W.cell? ⟨g, i * 5 + 1, none⟩ = some (.int .i64 x.f1) ∧ W.cell? ⟨g, i * 5 + 2, none⟩ = some (.int .i64 x.f2) ∧ W.cell? ⟨g, i * 5 + 3, none⟩ = some (.int .i64 x.f3) ∧ W.cell? ⟨g, i * 5 + 4, none⟩ = some (.int .i64 x.f4) ∧ W.frozen? ⟨g, i * 5 + 2, none⟩ = false ∧ W.frozen? ⟨g, i * 5 + 3, none⟩ = false := by
  obtain ⟨h1, h2⟩ := List.getElem?_eq_some_iff.1 hx
  have hn := (Kd.R_reads' HO).1
  obtain ⟨ce, hcl, hM, hcc, hfr⟩ := Kd.R_elem HO z32 (i : Int) (by omega) (by omega)
  rw [show dk.getD ((i : Int).toNat) z32 = x by simp [List.getD, hx]] at hM
  obtain rfl := k32_openM hM
  exact ⟨hcc 0 _ rfl, hcc 1 _ rfl, hcc 2 _ rfl, hcc 3 _ rfl, hcc 4 _ rfl, hfr 2, hfr 3⟩
theorem conn_put2 {W : World} {base g n cap : Nat} {ok : Nat → Prop} {dk : List Co} (HO : Kd.R k32 32 W base ok (.slice (some ⟨g, 0, none⟩) n cap) dk) {i : Nat} {x : Co} (hx : dk[i]? = some x) (v : Int) :
    Kd.R k32 32 (W.setCell ⟨g, i * 5 + 2, none⟩ (.int .i64 v)) base ok (.slice (some ⟨g, 0, none⟩) n cap) (dk.set i ⟨x.f0, x.f1, v, x.f3, x.f4⟩) ∧ W.grownBy (W.setCell ⟨g, i * 5 + 2, none⟩ (.int .i64 v)) (some g) := by
  obtain ⟨h1, h2⟩ := List.getElem?_eq_some_iff.1 hx
  have hn := (Kd.R_reads' HO).1
  obtain ⟨ce, hcl, hM, hcc, hfr⟩ := Kd.R_elem HO z32 (i : Int) (by omega) (by omega)
  rw [show dk.getD ((i : Int).toNat) z32 = x by simp [List.getD, hx]] at hM
  obtain rfl := k32_openM hM
  exact Kd.R_seg HO (i : Int) (by omega) (by omega) (seg := [.int .i64 v]) (j := 2) hcl hcc (show 2 + 1 ≤ 5 from by decide) (x' := ⟨x.f0, x.f1, v, x.f3, x.f4⟩) (k32_mkM _ _ _ ⟨x.f0, x.f1, v, x.f3, x.f4⟩) (fun _ hk => hk)
theorem conn_put3 {W : World} {base g n cap : Nat} {ok : Nat → Prop} {dk : List Co} (HO : Kd.R k32 32 W base ok (.slice (some ⟨g, 0, none⟩) n cap) dk) {i : Nat} {x : Co} (hx : dk[i]? = some x) (v : Int) :
    Kd.R k32 32 (W.setCell ⟨g, i * 5 + 3, none⟩ (.int .i64 v)) base ok (.slice (some ⟨g, 0, none⟩) n cap) (dk.set i ⟨x.f0, x.f1, x.f2, v, x.f4⟩) ∧ W.grownBy (W.setCell ⟨g, i * 5 + 3, none⟩ (.int .i64 v)) (some g) := by
  obtain ⟨h1, h2⟩ := List.getElem?_eq_some_iff.1 hx
  have hn := (Kd.R_reads' HO).1
  obtain ⟨ce, hcl, hM, hcc, hfr⟩ := Kd.R_elem HO z32 (i : Int) (by omega) (by omega)
  rw [show dk.getD ((i : Int).toNat) z32 = x by simp [List.getD, hx]] at hM
  obtain rfl := k32_openM hM
  exact Kd.R_seg HO (i : Int) (by omega) (by omega) (seg := [.int .i64 v]) (j := 3) hcl hcc (show 3 + 1 ≤ 5 from by decide) (x' := ⟨x.f0, x.f1, x.f2, v, x.f4⟩) (k32_mkM _ _ _ ⟨x.f0, x.f1, x.f2, v, x.f4⟩) (fun _ hk => hk)
theorem late_set {l : List Co} {f : Co → Co} {i : Nat} {x : Co} (hx : l[i]? = some x) : ((l.map f).take i ++ l.drop i).set i (f x) = (l.map f).take (i + 1) ++ l.drop (i + 1) := by
  obtain ⟨h1, h2⟩ := List.getElem?_eq_some_iff.1 hx
  have e : ((l.map f).take i).length = i := by rw [List.length_take, List.length_map]; omega
  rw [List.set_append_right _ _ (by omega), e, Nat.sub_self, List.drop_eq_getElem_cons h1, List.set_cons_zero, List.take_add_one, List.getElem?_map, hx]
  simp
theorem sort_late (t late : Int) (l : List Co) : sortG (l.map (shiftC t late)) = lateL t late l := by
  unfold sortG lateL
  rw [List.foldl_map]
def impl_PlanLate.f (n ch : Int) (l : List Co) (trip late : Int) : Option (Int × Int × List Co × Bool) := if l.length ≤ 1048576 then some (planLate n ch l trip late) else none
def planLate_T : Bool × List (List Nat × List Nat) := (true, [([], []), ([0], [0]), ([], []), ([2], [2]), ([], []), ([4], [4]), ([5], [5]), ([6, 6], [6]), ([1, 3, 7], [1, 3, 7]), ([], []), ([9, 8, 7, 0, 1, 2, 3, 4, 5, 6, 7, 8, 9], [8, 9])])
def planLate_B : List Nat := [0, 1, 0, 4, 0, 16, 48, 112, 255, 0, 1023]
theorem planLate_tab : rtab .any (opsOf Try.f44 3) = planLate_T := by kernel_rfl
theorem planLate_bits : waitsOk planLate_T.2 planLate_B = true := by kernel_rfl
set_option maxHeartbeats 4000000 in
set_option maxRecDepth 100000 in
theorem impl_PlanLate.calls (a0_0 : Int) (a0_1 : Int) (A0_2 : Option Addr) (c0_2 : Nat) (l0_2 : List (S32)) (a1 : Int) (a2 : Int) (r1 : Int) (r2 : Int) (r3 : List (S32)) (r4 : Bool) (w : World) (hr0_2 : Kd.C k32 w A0_2 l0_2.length l0_2) (hc0_2 : l0_2.length ≤ c0_2) (h : impl_PlanLate.f a0_0 a0_1 l0_2 a1 a2 = some (r1, r2, r3, r4)) :
    Calls Try.prog 44 #[.agg #[.int .i64 a0_0, .int .i64 a0_1, .slice A0_2 l0_2.length c0_2], .int .i64 a1, .int .i64 a2] w fun e w' => ∃ v2_ : Value, e = .returned (.tuple #[.agg #[.int .i64 r1, .int .i64 r2, v2_], .bool r4]) ∧ Kd.R k32 32 w' w.heap.size (fun _ => True) v2_ r3 ∧ Below w.heap.size w w' := by
  have hu25 := Try.underlying25
  have hu32 := Try.underlying32
  have HR0_2 := Aside0.mk hr0_2
  have HC0_2 := Aside0.mk hc0_2
  clear hr0_2 hc0_2
  have HB := Aside0.mk (Below.refl w.heap.size w)
  unfold impl_PlanLate.f at h
  by_cases hle : l0_2.length ≤ 1048576
  rotate_left
  · rw [if_neg hle] at h; exact absurd h (by simp)
  rw [if_pos hle] at h
  have HQ := Aside0.mk (Option.some.inj h)
  have HLE := Aside0.mk hle
  obtain ⟨k1, hk1⟩ := (planOk_ev a0_0 a0_1 l0_2 hle).get
  have AP := Aside0.mk hk1
  have AW : Aside0 (impl_within.f a1 0 5 = some (betB a1 0 5)) := ⟨within_le _ _ _⟩
  have AT : Aside0 (impl_timeOk.f a2 = some (betB a2 0 199)) := ⟨by unfold impl_timeOk.f; rw [within_le]; rfl⟩
  clear h hle hk1
  go_enter Try.func44, Try.ntmps44
  go_upto_region 1 with (first | ((with_reducible refine gate_dst (N := 3) rfl ?_); refine be (cs := #[.int .i64 a0_0, .int .i64 a0_1, .slice A0_2 l0_2.length c0_2]) (t := 25) ?_; intro gb101 hg w5 hbox hb; have BK101 := Aside0.mk (hbox); have GW101 := gz w hg (uB0 HB); have GE101 := gz w hg (uB0 HB); replace HB := Aside0.mk (below_step (uB0 HB) hb); clear hb hbox hg) | ((with_reducible refine gate_dst (N := 6) rfl ?_); refine be (cs := #[.int .i64 0, .int .i64 0, .slice none 0 0]) (t := 25) ?_; intro gb102 hg w6 hbox hb; have BK102 := Aside0.mk (hbox); have GW102 := gz w hg (uB1 HB GE101.out); have GE102 := gz w hg (uB1 HB GE101.out); replace HB := Aside0.mk (below_step (uB1 HB GE101.out) hb); have NB101_102 := gl hg BK101; have NB102_101 := gr hg BK101; replace BK101 := bb BK101 hb; clear hb hbox hg))
  (try simp only [Act.put, List.setIfInBounds_toArray, List.set_cons_zero, List.set_cons_succ])
  go_cut [23] (fun v23 wc => ∃ (b : Bool), v23 = .bool b ∧ Aside0 (b = !(planOkB a0_0 a0_1 l0_2 && betB a1 0 5 && betB a2 0 199)) ∧ Aside0 (wc.heap[gb101]? = some (.cells #[.int .i64 a0_0, .int .i64 a0_1, (.slice A0_2 l0_2.length c0_2)] 25 (0, 0))) ∧ Aside0 (wc.heap[gb102]? = some (.cells #[.int .i64 0, .int .i64 0, (.slice none 0 0)] 25 (0, 0))) ∧ Aside0 (Below w.heap.size w wc))
  case first =>
    have hnb := NB101_102.out
    have hnc := NB102_101.out
    obtain ⟨hz0, hz1, hz2, hf0, hf1, hf2⟩ := bc3 BK101
    cases hP : planOkB a0_0 a0_1 l0_2 with
    | false =>
      rw [hP] at AP
      have HP0 := Aside0.mk hP
      clear hP
      go_wp2_with (first | (go_at_call 21; (with_reducible refine (impl_PlanOk.calls k1 a0_0 a0_1 _ _ l0_2 false _ ?side1 ?side2 AP.out).mono ?_); (case side1 => exact uC HR0_2 HB); (case side2 => exact HC0_2.out); rintro e w14 ⟨rfl, hb⟩; replace BK101 := bb BK101 hb; replace BK102 := bb BK102 hb; replace HB := Aside0.mk (below_step (uB2 HB GE101.out GE102.out) hb); (try clear hb)))
      go_meet
      case rel => exact ⟨true, ue, ⟨by rw [HP0.out]; rfl⟩, ⟨ub BK101⟩, ⟨ub BK102⟩, ⟨uB2 HB GE101.out GE102.out⟩⟩
    | true =>
      rw [hP] at AP
      have HP0 := Aside0.mk hP
      clear hP
      cases hW : betB a1 0 5 with
      | false =>
        rw [hW] at AW
        have HW0 := Aside0.mk hW
        clear hW
        go_wp2_with (first | (go_at_call 21; (with_reducible refine (impl_PlanOk.calls k1 a0_0 a0_1 _ _ l0_2 true _ ?side1 ?side2 AP.out).mono ?_); (case side1 => exact uC HR0_2 HB); (case side2 => exact HC0_2.out); rintro e w14 ⟨rfl, hb⟩; replace BK101 := bb BK101 hb; replace BK102 := bb BK102 hb; replace HB := Aside0.mk (below_step (uB2 HB GE101.out GE102.out) hb); (try clear hb)) | (go_at_call 68; (with_reducible refine (impl_within.calls a1 0 5 false _ AW.out).mono ?_); rintro e w' ⟨rfl, ⟨nd, rfl⟩⟩))
        go_meet
        case rel => exact ⟨true, ue, ⟨by rw [HP0.out, HW0.out]; rfl⟩, ⟨ub BK101⟩, ⟨ub BK102⟩, ⟨uB2 HB GE101.out GE102.out⟩⟩
      | true =>
        rw [hW] at AW
        have HW0 := Aside0.mk hW
        clear hW
        obtain ⟨bt, hbt⟩ : ∃ bt, bt = betB a2 0 199 := ⟨_, rfl⟩
        rw [← hbt] at AT
        have HBT := Aside0.mk hbt
        clear hbt
        go_wp2_with (first | (go_at_call 21; (with_reducible refine (impl_PlanOk.calls k1 a0_0 a0_1 _ _ l0_2 true _ ?side1 ?side2 AP.out).mono ?_); (case side1 => exact uC HR0_2 HB); (case side2 => exact HC0_2.out); rintro e w14 ⟨rfl, hb⟩; replace BK101 := bb BK101 hb; replace BK102 := bb BK102 hb; replace HB := Aside0.mk (below_step (uB2 HB GE101.out GE102.out) hb); (try clear hb)) | (go_at_call 68; (with_reducible refine (impl_within.calls a1 0 5 true _ AW.out).mono ?_); rintro e w' ⟨rfl, ⟨nd, rfl⟩⟩) | (go_at_call 78; (with_reducible refine (impl_timeOk.calls a2 bt _ AT.out).mono ?_); rintro e w' ⟨rfl, ⟨nd, rfl⟩⟩))
        go_meet
        case rel => exact ⟨!bt, ue, ⟨by rw [HBT.out, HP0.out, HW0.out]; rfl⟩, ⟨ub BK101⟩, ⟨ub BK102⟩, ⟨uB2 HB GE101.out GE102.out⟩⟩
  case rest =>
    obtain ⟨b, rfl, HA, BK101, BK102, HB⟩ := hcut
    clear AP AW AT
    cases hb : planOkB a0_0 a0_1 l0_2 && betB a1 0 5 && betB a2 0 199 with
    | false =>
      have hq := HQ.out
      rw [hb] at HA
      obtain rfl : b = true := HA.out
      unfold planLate at hq
      rw [if_neg (by
        rintro ⟨e1, e2, e3⟩
        rw [e1, betB_iff.2 e2, betB_iff.2 e3] at hb
        exact absurd hb (by decide))] at hq
      simp only [Prod.mk.injEq] at hq
      obtain ⟨rfl, rfl, rfl, rfl⟩ := hq
      clear hb HA HQ
      have hnb22 := NB102_101.out
      have hnc22 := NB101_102.out
      obtain ⟨hcz23_0, hcz23_1, hcz23_2, hfz23_0, hfz23_1, hfz23_2⟩ := bc3 BK102
      go_wp2
      refine bodyPost_ret (results_ct rfl _ _ gb102 25 #[.int .i64 0, .int .i64 0, .slice none 0 0] (0, 0) _ rfl (by (with_reducible repeat first | apply zbn | apply zbd | apply zba); refine pu3 (.int .i64 0) (.int .i64 0) (.slice none 0 0) ?_; exact ub BK102) Try.underlying25 rfl (by kernel_rfl)) rfl ?_
      exact ⟨_, rfl, Kd.R_nil _ _ _ _ _, uB2 HB GE101.out GE102.out⟩
    | true =>
      rw [hb] at HA
      obtain rfl : b = false := HA.out
      rw [Bool.and_eq_true, Bool.and_eq_true] at hb
      obtain ⟨⟨hb1, hb2⟩, hb3⟩ := hb
      have HQ2 : Aside0 ((if planOkB a0_0 a0_1 (lateL a1 a2 l0_2) = true then (a0_0, a0_1, lateL a1 a2 l0_2, true) else (0, 0, [], false)) = (r1, r2, r3, r4)) := ⟨by
        have hq := HQ.out
        have hc : planOkB a0_0 a0_1 l0_2 = true ∧ (0 ≤ a1 ∧ a1 ≤ 5) ∧ (0 ≤ a2 ∧ a2 ≤ 199) := ⟨hb1, betB_iff.1 hb2, betB_iff.1 hb3⟩
        unfold planLate at hq
        rw [if_pos hc] at hq
        exact hq⟩
      have HOK := Aside0.mk hb1
      have HTR := Aside0.mk (betB_iff.1 hb2)
      have HLA := Aside0.mk (betB_iff.1 hb3)
      clear hb1 hb2 hb3 HA HQ
      obtain ⟨hz0, hz1, hz2, hf0, hf1, hf2⟩ := bc3 BK101
      go_wp2
      replace BK101 := Aside0.mk (blk_drew BK101.out)
      replace BK102 := Aside0.mk (blk_drew BK102.out)
      replace HB := Aside0.mk (below_drew1 HB.out)
      refine start_ (n := 11) (S := fun w' => w'.cell? ⟨gb101, 0, none⟩ = some (.int .i64 a0_0) ∧ w'.cell? ⟨gb101, 1, none⟩ = some (.int .i64 a0_1) ∧ w'.cell? ⟨gb101, 2, none⟩ = some (.slice A0_2 l0_2.length c0_2)) (ds := [10]) (zt 11 0) (by kernel_rfl) rfl (by kernel_rfl) (b3_ BK101) (fun hHeld => ?_)
      refine with_tabW planLate_tab planLate_bits (fun HT_ HW_ => ?_)
      clear hz0 hz1 hz2 hf0 hf1 hf2
      generalize wc.drew = w3 at BK101 BK102 HB hHeld ⊢
      refine qz HT_ 0 ?_
      refine qz HT_ 2 ?_
      refine qz HT_ 4 ?_
      refine qt HT_ HW_ hHeld 1 ?_
      refine qt HT_ HW_ hHeld 3 ?_
      refine qt HT_ HW_ hHeld 5 ?_
      refine join_ (σ := Option Addr × Nat × Nat) 1 (zt 11 1023) (fun s_ => [(31, .slice s_.1 l0_2.length s_.2.1), (32, .slice s_.1 l0_2.length l0_2.length), (33, .agg #[.int .i64 a0_0, .int .i64 a0_1, .slice s_.1 l0_2.length l0_2.length]), (8, .pointer (some ⟨s_.2.2, 0, none⟩))]) (fun s_ w' => (w'.cell? ⟨gb101, 0, none⟩ = some (.int .i64 a0_0) ∧ w'.cell? ⟨gb101, 1, none⟩ = some (.int .i64 a0_1) ∧ w'.cell? ⟨gb101, 2, none⟩ = some (.slice A0_2 l0_2.length c0_2)) ∧ (w'.heap[gb101]? = some (.cells #[.int .i64 a0_0, .int .i64 a0_1, .slice A0_2 l0_2.length c0_2] 25 (0, 0))) ∧ (w'.heap[gb102]? = some (.cells #[.int .i64 0, .int .i64 0, .slice none 0 0] 25 (0, 0))) ∧ (w'.heap[s_.2.2]? = some (.cells #[.int .i64 0, .int .i64 0, .slice none 0 0] 25 (0, 0))) ∧ Kd.R k32 32 w' w.heap.size (fun _ => True) (.slice s_.1 l0_2.length s_.2.1) l0_2 ∧ (∀ k, (.slice s_.1 l0_2.length s_.2.1 : Value).ownBlock = some k → k ≠ gb101 ∧ k ≠ gb102 ∧ k ≠ s_.2.2) ∧ (s_.2.2 ≠ gb101 ∧ s_.2.2 ≠ gb102 ∧ w.heap.size ≤ s_.2.2) ∧ Below w.heap.size w w') ?_ ?_
      rotate_left
      · intro hCont
        refine two_ (i := 6) (j := 9) (Ni := some 31) (Nj := some 8) (zt 11 127) (zt 11 575) rfl rfl rfl rfl (two_of HT_.out (by kernel_rfl)) (by decide) (by decide) (fun K hK => ?_) (fun K hK => ?_)
        · refine goes_ Try.func80 (by kernel_rfl) rfl #[.slice A0_2 l0_2.length c0_2] (by rfl) rfl rfl ul ?_
          refine (slices_Clone_Conn.calls A0_2 c0_2 l0_2 l0_2 _ (uC HR0_2 HB) HC0_2.out (by unfold slices_Clone_Conn.f; rw [if_pos (by have := HLE.out; omega)])).mono ?_
          rintro e w7 ⟨v104, rfl, ho0, hb⟩
          refine ⟨_, rfl, ?_⟩
          obtain ⟨Ao, co, eo⟩ := Kd.R_slice ho0
          subst eo
          have HO2 := Aside0.mk (Kd.R_lower ho0 (below_size HB.out))
          have HF : Aside0 (∀ k, (.slice Ao l0_2.length co : Value).ownBlock = some k → k ≠ gb101 ∧ k ≠ gb102) := ⟨fun k hk => by have h1 := Kd.R_base ho0 k hk; have h2 := blk_lt BK101.out; have h3 := blk_lt BK102.out; omega⟩
          replace BK101 := bb BK101 hb
          replace BK102 := bb BK102 hb
          replace HB := Aside0.mk (below_step HB.out hb)
          clear hb ho0
          refine hK.out _ _ (b3_ BK101) (fun hHeld => ?_)
          clear hK K
          refine nz ?_
          refine two_ (i := 7) (j := 9) (Ni := some 32) (Nj := some 8) (zt 11 255) (zt 11 639) rfl rfl rfl rfl (two_of HT_.out (by kernel_rfl)) (by decide) (by decide) (fun K hK => ?_) (fun K hK => ?_)
          · refine goes_ Try.func79 (by kernel_rfl) rfl #[.slice Ao l0_2.length co] (by rfl) rfl rfl ul ?_
            refine (clip_conn Ao co l0_2 _ _ _ HO2.out).mono ?_
            rintro e w8 ⟨rfl, rfl⟩
            refine ⟨_, rfl, ?_⟩
            refine hK.out _ _ (b3_ BK101) (fun hHeld => ?_)
            clear hK K
            refine nz ?_
            refine qz HT_ 8 ?_
            refine qo HT_ 9 (fun K hK => ?_)
            refine box_step (by rfl) (N := 8) rfl (cs := #[.int .i64 0, .int .i64 0, .slice none 0 0]) (t := 25) (by first | (go_simp; done) | (go_simp; rfl)) ?_
            intro gb103 hg w9 hbox hb
            have BK103 := Aside0.mk hbox
            have NB103 : Aside0 (gb103 ≠ gb101 ∧ gb103 ≠ gb102 ∧ w.heap.size ≤ gb103) := ⟨by have h2 := blk_lt BK101.out; have h3 := blk_lt BK102.out; have h4 := below_size HB.out; omega⟩
            replace BK101 := bb BK101 hb
            replace BK102 := bb BK102 hb
            have HF3 : Aside0 (∀ k, (.slice Ao l0_2.length co : Value).ownBlock = some k → k ≠ gb101 ∧ k ≠ gb102 ∧ k ≠ gb103) := ⟨fun k hk => by have h1 := HF.out k hk; have h2 := Kd.R_lt HO2.out k hk; omega⟩
            replace HO2 := Aside0.mk (Kd.R_below HO2.out hb)
            clear HF
            have HF := HF3
            clear HF3
            replace HB := Aside0.mk (below_step HB.out hb)
            clear hbox hb hg
            refine hK.out _ _ (b3_ BK101) (fun hHeld => ?_)
            clear hK K
            refine nz ?_
            exact norm_ (by simp only [putAll, Act.put, List.setIfInBounds_toArray, List.set_cons_zero, List.set_cons_succ]) (hCont (Ao, co, gb103) _ ⟨hHeld, BK101.out, BK102.out, BK103.out, HO2.out, HF.out, NB103.out, HB.out⟩)
          · refine box_step (by rfl) (N := 8) rfl (cs := #[.int .i64 0, .int .i64 0, .slice none 0 0]) (t := 25) (by first | (go_simp; done) | (go_simp; rfl)) ?_
            intro gb103 hg w9 hbox hb
            have BK103 := Aside0.mk hbox
            have NB103 : Aside0 (gb103 ≠ gb101 ∧ gb103 ≠ gb102 ∧ w.heap.size ≤ gb103) := ⟨by have h2 := blk_lt BK101.out; have h3 := blk_lt BK102.out; have h4 := below_size HB.out; omega⟩
            replace BK101 := bb BK101 hb
            replace BK102 := bb BK102 hb
            have HF3 : Aside0 (∀ k, (.slice Ao l0_2.length co : Value).ownBlock = some k → k ≠ gb101 ∧ k ≠ gb102 ∧ k ≠ gb103) := ⟨fun k hk => by have h1 := HF.out k hk; have h2 := Kd.R_lt HO2.out k hk; omega⟩
            replace HO2 := Aside0.mk (Kd.R_below HO2.out hb)
            clear HF
            have HF := HF3
            clear HF3
            replace HB := Aside0.mk (below_step HB.out hb)
            clear hbox hb hg
            refine hK.out _ _ (b3_ BK101) (fun hHeld => ?_)
            clear hK K
            refine nz ?_
            refine qo HT_ 7 (fun K hK => ?_)
            refine goes_ Try.func79 (by kernel_rfl) rfl #[.slice Ao l0_2.length co] (by rfl) rfl rfl ul ?_
            refine (clip_conn Ao co l0_2 _ _ _ HO2.out).mono ?_
            rintro e w8 ⟨rfl, rfl⟩
            refine ⟨_, rfl, ?_⟩
            refine hK.out _ _ (b3_ BK101) (fun hHeld => ?_)
            clear hK K
            refine nz ?_
            refine qz HT_ 8 ?_
            exact norm_ (by simp only [putAll, Act.put, List.setIfInBounds_toArray, List.set_cons_zero, List.set_cons_succ]) (hCont (Ao, co, gb103) _ ⟨hHeld, BK101.out, BK102.out, BK103.out, HO2.out, HF.out, NB103.out, HB.out⟩)
        · refine box_step (by rfl) (N := 8) rfl (cs := #[.int .i64 0, .int .i64 0, .slice none 0 0]) (t := 25) (by first | (go_simp; done) | (go_simp; rfl)) ?_
          intro gb103 hg w9 hbox hb
          have BK103 := Aside0.mk hbox
          have NB103 : Aside0 (gb103 ≠ gb101 ∧ gb103 ≠ gb102 ∧ w.heap.size ≤ gb103) := ⟨by have h2 := blk_lt BK101.out; have h3 := blk_lt BK102.out; have h4 := below_size HB.out; omega⟩
          replace BK101 := bb BK101 hb
          replace BK102 := bb BK102 hb
          replace HB := Aside0.mk (below_step HB.out hb)
          clear hbox hb hg
          refine hK.out _ _ (b3_ BK101) (fun hHeld => ?_)
          clear hK K
          refine nz ?_
          refine qo HT_ 6 (fun K hK => ?_)
          refine goes_ Try.func80 (by kernel_rfl) rfl #[.slice A0_2 l0_2.length c0_2] (by rfl) rfl rfl ul ?_
          refine (slices_Clone_Conn.calls A0_2 c0_2 l0_2 l0_2 _ (uC HR0_2 HB) HC0_2.out (by unfold slices_Clone_Conn.f; rw [if_pos (by have := HLE.out; omega)])).mono ?_
          rintro e w7 ⟨v104, rfl, ho0, hb⟩
          refine ⟨_, rfl, ?_⟩
          obtain ⟨Ao, co, eo⟩ := Kd.R_slice ho0
          subst eo
          have HO2 := Aside0.mk (Kd.R_lower ho0 (below_size HB.out))
          have HF : Aside0 (∀ k, (.slice Ao l0_2.length co : Value).ownBlock = some k → k ≠ gb101 ∧ k ≠ gb102 ∧ k ≠ gb103) := ⟨fun k hk => by have h1 := Kd.R_base ho0 k hk; have h2 := blk_lt BK101.out; have h3 := blk_lt BK102.out; have h4 := blk_lt BK103.out; omega⟩
          replace BK101 := bb BK101 hb
          replace BK102 := bb BK102 hb
          replace BK103 := bb BK103 hb
          replace HB := Aside0.mk (below_step HB.out hb)
          clear hb ho0
          refine hK.out _ _ (b3_ BK101) (fun hHeld => ?_)
          clear hK K
          refine nz ?_
          refine qo HT_ 7 (fun K hK => ?_)
          refine goes_ Try.func79 (by kernel_rfl) rfl #[.slice Ao l0_2.length co] (by rfl) rfl rfl ul ?_
          refine (clip_conn Ao co l0_2 _ _ _ HO2.out).mono ?_
          rintro e w8 ⟨rfl, rfl⟩
          refine ⟨_, rfl, ?_⟩
          refine hK.out _ _ (b3_ BK101) (fun hHeld => ?_)
          clear hK K
          refine nz ?_
          refine qz HT_ 8 ?_
          exact norm_ (by simp only [putAll, Act.put, List.setIfInBounds_toArray, List.set_cons_zero, List.set_cons_succ]) (hCont (Ao, co, gb103) _ ⟨hHeld, BK101.out, BK102.out, BK103.out, HO2.out, HF.out, NB103.out, HB.out⟩)
      rintro ⟨Ao, co, gb103⟩ w4 ⟨hS_, h1_, h2_, h3_, h4_, h5_, h6_, h7_⟩
      replace BK101 := Aside0.mk h1_
      replace BK102 := Aside0.mk h2_
      have BK103 := Aside0.mk h3_
      have HO2 := Aside0.mk (Kd.R_clip h4_)
      have HF : Aside0 (∀ k, (.slice Ao l0_2.length l0_2.length : Value).ownBlock = some k → k ≠ gb101 ∧ k ≠ gb102 ∧ k ≠ gb103) := ⟨fun k hk => h5_ k (by cases Ao; exact absurd hk (by simp [Value.ownBlock]); exact hk)⟩
      have NB103_101 := Aside0.mk h6_.1
      have NB103_102 := Aside0.mk h6_.2.1
      have NB101_103 := Aside0.mk (Ne.symm h6_.1)
      have NB102_103 := Aside0.mk (Ne.symm h6_.2.1)
      have GE103 := Aside0.mk h6_.2.2
      replace HB := Aside0.mk h7_
      clear hHeld hS_ h1_ h2_ h3_ h4_ h5_ h6_ h7_
      obtain ⟨hz0, hz1, hz2, hf0, hf1, hf2⟩ := bc3 BK103
      refine norm_ (by simp only [putAll, Act.put, List.setIfInBounds_toArray, List.set_cons_zero, List.set_cons_succ]; rfl) ?_
      refine last_ (i := 10) (N := none) (zt 11 2047) rfl rfl (one_of HT_.out (by kernel_rfl)) (by decide) (fun K hK => ?_)
      refine skip_ (w1 := (((w4.setCell ⟨gb103, 0, none⟩ (.int .i64 a0_0)).setCell ⟨gb103, 1, none⟩ (.int .i64 a0_1)).setCell ⟨gb103, 2, none⟩ (.slice Ao l0_2.length l0_2.length))) (by rfl) rfl (by first | (go_simp; done) | (go_simp; rfl)) ?_
      refine hK.out _ _ ?_
      clear hK K
      refine done_ (done_of HT_.out (by kernel_rfl)) ?_
      clear HT_ HW_ hz0 hz1 hz2 hf0 hf1 hf2
      have n1_ : Aside0 ((((w4.setCell ⟨gb103, 0, none⟩ (.int .i64 a0_0)).setCell ⟨gb103, 1, none⟩ (.int .i64 a0_1)).setCell ⟨gb103, 2, none⟩ (.slice Ao l0_2.length l0_2.length)).heap[gb102]? = some (.cells #[.int .i64 0, .int .i64 0, .slice none 0 0] 25 (0, 0))) := ⟨fa3 BK102.out NB102_103⟩
      have n2_ : Aside0 ((((w4.setCell ⟨gb103, 0, none⟩ (.int .i64 a0_0)).setCell ⟨gb103, 1, none⟩ (.int .i64 a0_1)).setCell ⟨gb103, 2, none⟩ (.slice Ao l0_2.length l0_2.length)).heap[gb103]? = some (.cells #[.int .i64 a0_0, .int .i64 a0_1, .slice Ao l0_2.length l0_2.length] 25 (0, 0))) := ⟨pu3 (.int .i64 0) (.int .i64 0) (.slice none 0 0) BK103.out⟩
      have n3_ : Aside0 (Kd.R k32 32 (((w4.setCell ⟨gb103, 0, none⟩ (.int .i64 a0_0)).setCell ⟨gb103, 1, none⟩ (.int .i64 a0_1)).setCell ⟨gb103, 2, none⟩ (.slice Ao l0_2.length l0_2.length)) w.heap.size (fun _ => True) (.slice Ao l0_2.length l0_2.length) l0_2) := ⟨Kd.R_mono (rf3 HO2 BK103) (fun _ _ => trivial)⟩
      have n4_ : Aside0 (Below w.heap.size w (((w4.setCell ⟨gb103, 0, none⟩ (.int .i64 a0_0)).setCell ⟨gb103, 1, none⟩ (.int .i64 a0_1)).setCell ⟨gb103, 2, none⟩ (.slice Ao l0_2.length l0_2.length))) := ⟨uB1 HB GE103.out⟩
      clear BK101 BK102 BK103 HO2 HB
      generalize (((w4.setCell ⟨gb103, 0, none⟩ (.int .i64 a0_0)).setCell ⟨gb103, 1, none⟩ (.int .i64 a0_1)).setCell ⟨gb103, 2, none⟩ (.slice Ao l0_2.length l0_2.length)) = w5 at n1_ n2_ n3_ n4_ ⊢
      have hv : Aside0 (∀ x ∈ l0_2, 0 ≤ x.f2 ∧ x.f2 ≤ 199 ∧ 0 ≤ x.f3 ∧ x.f3 ≤ 199) := ⟨fun x hx => by
        obtain ⟨k, hk, rfl⟩ := List.getElem_of_mem hx
        have := (planOk_ok HOK.out).1.at_ k hk
        have e : cn l0_2 k = l0_2[k] := by simp [cn, List.getD, hk]
        rw [e] at this
        omega⟩
      have HLEN : Aside0 (l0_2.length ≤ 16) := ⟨(planOk_ok HOK.out).1.len⟩
      obtain ⟨hz0, hz1, hz2, hf0, hf1, hf2⟩ := bc3 n2_
      obtain ⟨n, hn⟩ : ∃ n, n = l0_2.length := ⟨_, rfl⟩
      rw [← hn] at n2_ n3_ hz2 HF HLEN
      rw [← hn]
      have HN := Aside0.mk hn
      clear hn
      go_wp2
      go_loopg [9, 10, 37] n (fun gg s9 s10 s37 wr => ∃ (i : Nat), s37 = .int .i64 (i : Int) ∧ i ≤ n ∧ n - i ≤ gg ∧ Aside0 (Kd.R k32 32 wr w.heap.size (fun _ => True) (.slice Ao n n) ((l0_2.map (shiftC a1 a2)).take i ++ l0_2.drop i)) ∧ Aside0 (wr.heap[gb102]? = some (.cells #[.int .i64 0, .int .i64 0, .slice none 0 0] 25 (0, 0))) ∧ Aside0 (wr.heap[gb103]? = some (.cells #[.int .i64 a0_0, .int .i64 a0_1, .slice Ao n n] 25 (0, 0))) ∧ Aside0 (Below w.heap.size w wr))
      case atStart => exact ⟨0, rfl, Nat.zero_le _, Nat.le_refl _, ⟨by simpa using n3_.out⟩, n1_, n2_, n4_⟩
      case round =>
        clear n1_ n2_ n3_ n4_ hz0 hz1 hz2 hf0 hf1 hf2
        obtain ⟨i, rfl, hin, hgg, HO, BK102, BK103, HB⟩ := hrel
        by_cases hlt : i < n
        · have hltz := dl (show (i : Int) < (n : Int) by omega)
          have p0 := eq_true (show 0 ≤ (i : Int) by omega)
          have q0 := eq_true (show (i : Int) < (n : Int) by omega)
          obtain ⟨g, cap', hvv, hbase, hglt, cells0, hcells0⟩ := Kd.R_form HO.out (by rw [← (Kd.R_reads' HO.out).1]; omega)
          simp only [Value.slice.injEq] at hvv
          have hA := hvv.1
          clear hvv
          subst hA
          clear hcells0 cells0
          have HBG := Aside0.mk hbase
          clear hbase hglt
          obtain ⟨x, hx⟩ : ∃ x, l0_2[i]? = some x := ⟨_, List.getElem?_eq_getElem (by have := HN.out; omega)⟩
          obtain ⟨dk, hdk⟩ : ∃ dk, dk = (l0_2.map (shiftC a1 a2)).take i ++ l0_2.drop i := ⟨_, rfl⟩
          rw [← hdk] at HO
          have hdx : dk[i]? = some x := by
            rw [hdk, List.getElem?_append_right (by simp; omega), List.length_take, List.length_map, List.getElem?_drop, show i + (i - min i l0_2.length) = i by have := HN.out; omega]
            exact hx
          have HX := Aside0.mk hx
          have HDK := Aside0.mk hdk
          have HDX := Aside0.mk hdx
          have hvx := hv.out x (List.mem_of_getElem? hx)
          have hl2 := HLA.out
          have hw2 : wrap64 (x.f2 + a2) = x.f2 + a2 := by unfold wrap64; omega
          have hw3 : wrap64 (x.f3 + a2) = x.f3 + a2 := by unfold wrap64; omega
          clear hx hdk hdx hvx hl2
          obtain ⟨h0, h1, h2, h3, h4, f2, f3⟩ := conn_cells HO.out HDX.out
          obtain ⟨hz0, hz1, hz2, hf0, hf1, hf2⟩ := bc3 BK103
          have NG : Aside0 (g ≠ gb102 ∧ g ≠ gb103) := ⟨by have := HF.out g rfl; omega⟩
          by_cases hc : x.f4 = a1
          · obtain ⟨b1, b2⟩ := dq hc
            have HC := Aside0.mk hc
            clear hc
            go_wp2_with (first | ((with_reducible refine gate_store (t := 3) (p := 57) rfl ?_); refine store_event (t := 3) (p := 57) (v := ?vo_) (w1 := wr.setCell ⟨g, i * 5 + 2, none⟩ (.int .i64 (x.f2 + a2))) ?hg ?ho ?hn ?hr ?_; (case ho => rfl); (case hg => rfl); (case hn => rfl); (case hr => first | (go_simp; done) | (go_simp; rfl)); intro w6 hw; have HP2 := conn_put2 HO.out HDX.out (x.f2 + a2); rw [← hw] at HP2; have HO5 := Aside0.mk HP2.1; replace BK102 := Aside0.mk (blk_grown BK102.out HP2.2 (by have := NG.out; simp; omega)); replace BK103 := Aside0.mk (blk_grown BK103.out HP2.2 (by have := NG.out; simp; omega)); replace HB := Aside0.mk (HB.out.grown HP2.2 (below_size HB.out) (fun k hk => by cases hk; exact HBG.out)); clear HP2 hw HO h0 h1 h2 h3 h4 f2 f3 hz0 hz1 hz2 hf0 hf1 hf2; have HDY : Aside0 ((dk.set i ⟨x.f0, x.f1, x.f2 + a2, x.f3, x.f4⟩)[i]? = some ⟨x.f0, x.f1, x.f2 + a2, x.f3, x.f4⟩) := ⟨by have := HDX.out; rw [List.getElem?_set_self (List.getElem?_eq_some_iff.1 this).1]⟩; obtain ⟨h0, h1, h2, h3, h4, f2, f3⟩ := conn_cells HO5.out HDY.out))
            go_roundg (n - i - 1)
            case measure => omega
            case rel =>
              have HP3 := conn_put3 HO5.out HDY.out (x.f3 + a2)
              refine ⟨i + 1, congrArg (Value.int .i64) (by unfold wrap64; have := HLEN.out; omega), by omega, by omega, ⟨?_⟩, ⟨blk_grown BK102.out HP3.2 (by have := NG.out; simp; omega)⟩, ⟨blk_grown BK103.out HP3.2 (by have := NG.out; simp; omega)⟩, ⟨HB.out.grown HP3.2 (below_size HB.out) (fun k hk => by cases hk; exact HBG.out)⟩⟩
              have h7 : shiftC a1 a2 x = ⟨x.f0, x.f1, x.f2 + a2, x.f3 + a2, x.f4⟩ := if_pos HC.out
              rw [← late_set HX.out, h7, ← HDK.out]
              have h8 := HP3.1
              rw [List.set_set] at h8
              exact h8
          · obtain ⟨b1, b2⟩ := dQ hc
            have HC := Aside0.mk hc
            clear hc
            go_wp2
            go_roundg (n - i - 1)
            case measure => omega
            case rel =>
              refine ⟨i + 1, congrArg (Value.int .i64) (by unfold wrap64; have := HLEN.out; omega), by omega, by omega, ⟨?_⟩, BK102, BK103, HB⟩
              have h7 : shiftC a1 a2 x = x := if_neg HC.out
              rw [← late_set HX.out, h7, ← HDK.out]
              have h8 : dk.set i x = dk := by
                obtain ⟨h9, h10⟩ := List.getElem?_eq_some_iff.1 HDX.out
                rw [← h10]
                exact List.set_getElem_self h9
              rw [h8]
              exact HO.out
        · have hltz := DL (show ¬ (i : Int) < (n : Int) by omega)
          obtain ⟨hz0, hz1, hz2, hf0, hf1, hf2⟩ := bc3 BK103
          obtain rfl : i = n := by omega
          have hL0 : (l0_2.map (shiftC a1 a2)).take i ++ l0_2.drop i = l0_2.map (shiftC a1 a2) := by
            have := HN.out
            rw [List.take_of_length_le (by rw [List.length_map]; omega), List.drop_eq_nil_of_le (by omega), List.append_nil]
          obtain ⟨L, hL⟩ : ∃ L, L = l0_2.map (shiftC a1 a2) := ⟨_, rfl⟩
          rw [hL0, ← hL] at HO
          have hLl : L.length = i := by rw [hL, List.length_map]; exact HN.out.symm
          obtain ⟨M, hM⟩ : ∃ M, M = lateL a1 a2 l0_2 := ⟨_, rfl⟩
          have hMl : M.length = i := by rw [hM, lateL_len]; exact HN.out.symm
          have hSM : sortG L = M := by rw [hL, hM, sort_late]
          have hMS := Aside0.mk hM
          rw [← hM] at HQ2
          have HLA2 := HLA
          have HSORT := sortStable_conn 82 #[] (fun args W => enters_ (P := Try.prog) Try.func82 (by kernel_rfl) rfl args W) Ao i L wr w.heap.size (fun _ => True) (by rw [hLl]; exact HO.out) (by rw [hLl]; exact HLEN.out) (fun W x y _ => by simpa using planLate1_cmp x y W)
          rw [hLl, hSM] at HSORT
          have HSO := Aside0.mk HSORT
          have HPO : ∀ W : World, Kd.C k32 W Ao M.length M → Calls Try.prog 21 #[.agg #[.int .i64 a0_0, .int .i64 a0_1, .slice Ao i i]] W fun e w' => e = .returned (.bool (planOkB a0_0 a0_1 M)) ∧ Below W.heap.size W w' := fun W hW => by
            obtain ⟨k2, hk2⟩ := (planOk_ev a0_0 a0_1 M (by have := HLEN.out; omega)).get
            have := impl_PlanOk.calls k2 a0_0 a0_1 Ao i M (planOkB a0_0 a0_1 M) W hW (by omega) hk2
            rw [hMl] at this
            exact this
          have HPP := Aside0.mk HPO
          clear HPO HSORT hL hLl hMl hSM hL0 hM
          cases hq : planOkB a0_0 a0_1 M with
          | true =>
            rw [hq] at HPP
            have h9 := HQ2.out
            rw [if_pos hq] at h9
            simp only [Prod.mk.injEq] at h9
            obtain ⟨rfl, rfl, rfl, rfl⟩ := h9
            clear HQ2 hq
            go_wp2_with (first | (go_at_call 81; refine HSO.out.mono ?_; rintro e w8 ⟨rfl, hs1, hs2⟩; have HO2 := Aside0.mk hs1; replace BK102 := Aside0.mk (blk_grown BK102.out hs2 (fun he => (HF.out _ he.symm).2.1 rfl)); replace BK103 := Aside0.mk (blk_grown BK103.out hs2 (fun he => (HF.out _ he.symm).2.2 rfl)); replace HB := Aside0.mk (HB.out.grown hs2 (below_size HB.out) (fun k hk => Kd.R_base HO.out k hk)); clear HO HSO hs1 hs2 hz0 hz1 hz2 hf0 hf1 hf2; obtain ⟨hz0, hz1, hz2, hf0, hf1, hf2⟩ := bc3 BK103) | (go_at_call 21; refine (HPP.out _ ?side1).mono ?_; (case side1 => exact uD (Kd.R_reads' HO2.out).2.2); rintro e w9 ⟨rfl, hb⟩; replace HO2 := Aside0.mk (Kd.R_below (ur HO2) hb); replace BK102 := bb BK102 hb; replace BK103 := bb BK103 hb; replace HB := Aside0.mk (below_step (uB2 HB GE102.out GE103.out) hb); clear hb HPP hz0 hz1 hz2 hf0 hf1 hf2; obtain ⟨hz0, hz1, hz2, hf0, hf1, hf2⟩ := bc3 BK103; obtain ⟨hy0, hy1, hy2, hg0, hg1, hg2⟩ := bc3 BK102; have hnb1 := NB102_103.out; have hnb2 := NB103_102.out))
            refine bodyPost_ret (results_ct rfl _ _ gb102 25 #[.int .i64 a0_0, .int .i64 a0_1, .slice Ao i i] (0, 0) _ rfl (by (with_reducible repeat first | apply zbn | apply zbd | apply zba); refine pu3 (.int .i64 0) (.int .i64 0) (.slice none 0 0) ?_; exact ub BK102) Try.underlying25 rfl (by kernel_rfl)) rfl ?_
            exact ⟨_, rfl, Kd.R_mono (rf3 HO2 BK102) (fun _ _ => trivial), uB2 HB GE102.out GE103.out⟩
          | false =>
            rw [hq] at HPP
            have h9 := HQ2.out
            rw [if_neg (by rw [hq]; decide)] at h9
            simp only [Prod.mk.injEq] at h9
            obtain ⟨rfl, rfl, rfl, rfl⟩ := h9
            clear HQ2 hq
            go_wp2_with (first | (go_at_call 81; refine HSO.out.mono ?_; rintro e w8 ⟨rfl, hs1, hs2⟩; have HO2 := Aside0.mk hs1; replace BK102 := Aside0.mk (blk_grown BK102.out hs2 (fun he => (HF.out _ he.symm).2.1 rfl)); replace BK103 := Aside0.mk (blk_grown BK103.out hs2 (fun he => (HF.out _ he.symm).2.2 rfl)); replace HB := Aside0.mk (HB.out.grown hs2 (below_size HB.out) (fun k hk => Kd.R_base HO.out k hk)); clear HO HSO hs1 hs2 hz0 hz1 hz2 hf0 hf1 hf2; obtain ⟨hz0, hz1, hz2, hf0, hf1, hf2⟩ := bc3 BK103) | (go_at_call 21; refine (HPP.out _ ?side1).mono ?_; (case side1 => exact uD (Kd.R_reads' HO2.out).2.2); rintro e w9 ⟨rfl, hb⟩; replace HO2 := Aside0.mk (Kd.R_below (ur HO2) hb); replace BK102 := bb BK102 hb; replace BK103 := bb BK103 hb; replace HB := Aside0.mk (below_step (uB2 HB GE102.out GE103.out) hb); clear hb HPP hz0 hz1 hz2 hf0 hf1 hf2; obtain ⟨hz0, hz1, hz2, hf0, hf1, hf2⟩ := bc3 BK103; obtain ⟨hy0, hy1, hy2, hg0, hg1, hg2⟩ := bc3 BK102; have hnb1 := NB102_103.out; have hnb2 := NB103_102.out))
            refine bodyPost_ret (results_ct rfl _ _ gb102 25 #[.int .i64 0, .int .i64 0, .slice none 0 0] (0, 0) _ rfl (by (with_reducible repeat first | apply zbn | apply zbd | apply zba); refine pu3 (.int .i64 0) (.int .i64 0) (.slice none 0 0) ?_; exact ub BK102) Try.underlying25 rfl (by kernel_rfl)) rfl ?_
            exact ⟨_, rfl, Kd.R_nil _ _ _ _ _, uB2 HB GE102.out GE103.out⟩
end Go.Proofs.Ytcklifkbodmoaaa.P
