-- written for this claim by a program (wip/gen/myprint.py over the print tool). Not trusted: Lean checks it.
import Derived.Test.YtdlaaccnaokdnaaPx0
import Derived.Test.YtdlaaccnaokdnaaHUp
import Derived.Test.YtdlaaccnaokdnaaHUpS
namespace Go.Proofs.Ytdlaaccnaokdnaa.P
open Go.RowKit Go.Proofs.YtdlaaccnaokdnaaV.PrintWords Go.Proofs.YtdlaaccnaokdnaaV.PrintLast
set_option linter.unusedVariables false
set_option linter.unusedSimpArgs false

/-! ### spec_l8Meet: function 53 -/
def spec_l8Meet.l0 : Nat → List Int → List Int → Int → Int → Int → List Int → List (List Int) → List (List Int) → Option (Int × Int)
 | 0, _, _, _, _, _, _, _, _ => none
 | k + 1, x8, x9, x10, x11, x12, x102000, x102001, x102002 => if x12 < (x102000.length : Int) then (if 0 ≤ x12 then (if 0 ≤ (rd x102000 x12) then (if (rd x102000 x12) < (x8.length : Int) then (if (rd x8 (rd x102000 x12)) < 99999 then (if (rd x102000 x12) < (x9.length : Int) then (if (rd x9 (rd x102000 x12)) < 99999 then (if (wrap64 ((rd x8 (rd x102000 x12)) + (rd x9 (rd x102000 x12)))) < x10 then (spec_l8Meet.l0 k x8 x9 (wrap64 ((rd x8 (rd x102000 x12)) + (rd x9 (rd x102000 x12)))) (rd x102000 x12) (wrap64 (x12 + 1)) x102000 x102001 x102002) else (spec_l8Meet.l0 k x8 x9 x10 x11 (wrap64 (x12 + 1)) x102000 x102001 x102002)) else (spec_l8Meet.l0 k x8 x9 x10 x11 (wrap64 (x12 + 1)) x102000 x102001 x102002)) else (none)) else (spec_l8Meet.l0 k x8 x9 x10 x11 (wrap64 (x12 + 1)) x102000 x102001 x102002)) else (none)) else (none)) else (none)) else (some (x11, x10))
def spec_l8Meet.f (k : Nat) (l0_0 : List Int) (l0_1 : List (List Int)) (l0_2 : List (List Int)) (a1 : Int) (a2 : Int) : Option (Int × Int) := (spec_l8Up.f l0_0 l0_1 l0_2 a1 false).bind fun t102 => ((spec_l8Up.f l0_0 l0_1 l0_2 a2 true).bind fun t105 => (spec_l8Meet.l0 k t102 t105 99999 (-1) 0 l0_0 l0_1 l0_2))
set_option maxHeartbeats 8000000 in
set_option maxRecDepth 100000 in
theorem spec_l8Meet.calls (k : Nat) (A0_0 : Option Addr) (c0_0 : Nat) (l0_0 : List Int) (A0_1 : Option Addr) (c0_1 : Nat) (l0_1 : List (List Int)) (A0_2 : Option Addr) (c0_2 : Nat) (l0_2 : List (List Int)) (a1 : Int) (a2 : Int) (r1 : Int) (r2 : Int) (w : World) (hr0_0 : Kd.C (Kd.int .i64) w A0_0 l0_0.length l0_0) (hc0_0 : l0_0.length ≤ c0_0) (hr0_1 : Kd.C (Kd.slice 3 (Kd.int .i64)) w A0_1 l0_1.length l0_1) (hc0_1 : l0_1.length ≤ c0_1) (hr0_2 : Kd.C (Kd.slice 3 (Kd.int .i64)) w A0_2 l0_2.length l0_2) (hc0_2 : l0_2.length ≤ c0_2) (h : spec_l8Meet.f k l0_0 l0_1 l0_2 a1 a2 = some (r1, r2)) :
  Calls Try.prog 53 #[.agg #[.slice A0_0 l0_0.length c0_0, .slice A0_1 l0_1.length c0_1, .slice A0_2 l0_2.length c0_2], .int .i64 a1, .int .i64 a2] w fun e w' => e = .returned (.tuple #[.int .i64 r1, .int .i64 r2]) ∧ Below w.heap.size w w' := by
 have hu37 := Try.underlying37
 have HR0_0 := Aside0.mk hr0_0
 have HC0_0 := Aside0.mk hc0_0
 clear hr0_0 hc0_0
 have HR0_1 := Aside0.mk hr0_1
 have HC0_1 := Aside0.mk hc0_1
 clear hr0_1 hc0_1
 have HR0_2 := Aside0.mk hr0_2
 have HC0_2 := Aside0.mk hc0_2
 clear hr0_2 hc0_2
 have HB := Aside0.mk (Below.refl w.heap.size w)
 have H : ((spec_l8Up.f l0_0 l0_1 l0_2 a1 false).bind fun t102 => ((spec_l8Up.f l0_0 l0_1 l0_2 a2 true).bind fun t105 => (spec_l8Meet.l0 k t102 t105 99999 (-1) 0 l0_0 l0_1 l0_2))) = some (r1, r2) := h
 clear h
 replace H := Option.bind_eq_some_iff.mp H
 obtain ⟨t102, A40, H⟩ := H
 replace H : ((spec_l8Up.f l0_0 l0_1 l0_2 a2 true).bind fun t105 => (spec_l8Meet.l0 k t102 t105 99999 (-1) 0 l0_0 l0_1 l0_2)) = some (r1, r2) := H
 have A4 := Aside0.mk A40
 clear A40
 replace H := Option.bind_eq_some_iff.mp H
 obtain ⟨t105, A50, H⟩ := H
 replace H : (spec_l8Meet.l0 k t102 t105 99999 (-1) 0 l0_0 l0_1 l0_2) = some (r1, r2) := H
 have A5 := Aside0.mk A50
 clear A50
 have H' := Aside0.mk H
 clear H
 go_enter Try.func53, Try.ntmps53
 go_wp2_with (first | ((with_reducible refine gate_dst (N := 3) rfl ?_); refine be (cs := #[.slice A0_0 l0_0.length c0_0, .slice A0_1 l0_1.length c0_1, .slice A0_2 l0_2.length c0_2]) (t := 37) ?_; intro gb101 hg w6 hbox hb; have BK101 := Aside0.mk (hbox); have GW101 := gz w hg (uB0 HB); have GE101 := gz w hg (uB0 HB); replace HB := Aside0.mk (below_step (uB0 HB) hb); clear hb hbox hg; obtain ⟨hcz7_0, hcz7_1, hcz7_2, hfz7_0, hfz7_1, hfz7_2⟩ := bc3 BK101) | (go_at_call 92; (with_reducible refine (spec_l8Up.calls _ _ l0_0 _ _ l0_1 _ _ l0_2 a1 false t102 _ ?side1 ?side2 ?side3 ?side4 ?side5 ?side6 A4.out).mono ?_); (case side1 => exact uC HR0_0 HB); (case side2 => exact HC0_0.out); (case side3 => exact uC HR0_1 HB); (case side4 => exact HC0_1.out); (case side5 => exact uC HR0_2 HB); (case side6 => exact HC0_2.out); rintro e w8 ⟨v103, rfl, ho0, hb⟩; have HO104 := Aside0.mk (Kd.R_lower ho0 (below_size (uB1 HB GE101.out))); replace BK101 := bb BK101 hb; replace HB := Aside0.mk (below_step (uB1 HB GE101.out) hb); (try clear hb); (try clear hb2); (try clear hk); (try clear hi); (try clear ho0); obtain ⟨hcz9_0, hcz9_1, hcz9_2, hfz9_0, hfz9_1, hfz9_2⟩ := bc3 BK101) | (go_at_call 92; (with_reducible refine (spec_l8Up.calls _ _ l0_0 _ _ l0_1 _ _ l0_2 a2 true t105 _ ?side1 ?side2 ?side3 ?side4 ?side5 ?side6 A5.out).mono ?_); (case side1 => exact uC HR0_0 HB); (case side2 => exact HC0_0.out); (case side3 => exact uC HR0_1 HB); (case side4 => exact HC0_1.out); (case side5 => exact uC HR0_2 HB); (case side6 => exact HC0_2.out); rintro e w10 ⟨v106, rfl, ho0, hb⟩; have HO107 := Aside0.mk (Kd.R_lower (Kd.R_new' ho0 (Kd.R_lt (ur HO104))) (below_size (uB1 HB GE101.out))); replace HO104 := Aside0.mk (Kd.R_elder' (ur HO104) (Kd.R_base ho0) hb); replace BK101 := bb BK101 hb; replace HB := Aside0.mk (below_step (uB1 HB GE101.out) hb); (try clear hb); (try clear hb2); (try clear hk); (try clear hi); (try clear ho0)))
 repeat (go_quiet (first | ((with_reducible refine gate_dst (N := 3) rfl ?_); refine be (cs := #[.slice A0_0 l0_0.length c0_0, .slice A0_1 l0_1.length c0_1, .slice A0_2 l0_2.length c0_2]) (t := 37) ?_; intro gb101 hg w6 hbox hb; have BK101 := Aside0.mk (hbox); have GW101 := gz w hg (uB0 HB); have GE101 := gz w hg (uB0 HB); replace HB := Aside0.mk (below_step (uB0 HB) hb); clear hb hbox hg; obtain ⟨hcz7_0, hcz7_1, hcz7_2, hfz7_0, hfz7_1, hfz7_2⟩ := bc3 BK101) | (go_at_call 92; (with_reducible refine (spec_l8Up.calls _ _ l0_0 _ _ l0_1 _ _ l0_2 a1 false t102 _ ?side1 ?side2 ?side3 ?side4 ?side5 ?side6 A4.out).mono ?_); (case side1 => exact uC HR0_0 HB); (case side2 => exact HC0_0.out); (case side3 => exact uC HR0_1 HB); (case side4 => exact HC0_1.out); (case side5 => exact uC HR0_2 HB); (case side6 => exact HC0_2.out); rintro e w8 ⟨v103, rfl, ho0, hb⟩; have HO104 := Aside0.mk (Kd.R_lower ho0 (below_size (uB1 HB GE101.out))); replace BK101 := bb BK101 hb; replace HB := Aside0.mk (below_step (uB1 HB GE101.out) hb); (try clear hb); (try clear hb2); (try clear hk); (try clear hi); (try clear ho0); obtain ⟨hcz9_0, hcz9_1, hcz9_2, hfz9_0, hfz9_1, hfz9_2⟩ := bc3 BK101) | (go_at_call 92; (with_reducible refine (spec_l8Up.calls _ _ l0_0 _ _ l0_1 _ _ l0_2 a2 true t105 _ ?side1 ?side2 ?side3 ?side4 ?side5 ?side6 A5.out).mono ?_); (case side1 => exact uC HR0_0 HB); (case side2 => exact HC0_0.out); (case side3 => exact uC HR0_1 HB); (case side4 => exact HC0_1.out); (case side5 => exact uC HR0_2 HB); (case side6 => exact HC0_2.out); rintro e w10 ⟨v106, rfl, ho0, hb⟩; have HO107 := Aside0.mk (Kd.R_lower (Kd.R_new' ho0 (Kd.R_lt (ur HO104))) (below_size (uB1 HB GE101.out))); replace HO104 := Aside0.mk (Kd.R_elder' (ur HO104) (Kd.R_base ho0) hb); replace BK101 := bb BK101 hb; replace HB := Aside0.mk (below_step (uB1 HB GE101.out) hb); (try clear hb); (try clear hb2); (try clear hk); (try clear hi); (try clear ho0))); try go_wp2_with (first | ((with_reducible refine gate_dst (N := 3) rfl ?_); refine be (cs := #[.slice A0_0 l0_0.length c0_0, .slice A0_1 l0_1.length c0_1, .slice A0_2 l0_2.length c0_2]) (t := 37) ?_; intro gb101 hg w6 hbox hb; have BK101 := Aside0.mk (hbox); have GW101 := gz w hg (uB0 HB); have GE101 := gz w hg (uB0 HB); replace HB := Aside0.mk (below_step (uB0 HB) hb); clear hb hbox hg; obtain ⟨hcz7_0, hcz7_1, hcz7_2, hfz7_0, hfz7_1, hfz7_2⟩ := bc3 BK101) | (go_at_call 92; (with_reducible refine (spec_l8Up.calls _ _ l0_0 _ _ l0_1 _ _ l0_2 a1 false t102 _ ?side1 ?side2 ?side3 ?side4 ?side5 ?side6 A4.out).mono ?_); (case side1 => exact uC HR0_0 HB); (case side2 => exact HC0_0.out); (case side3 => exact uC HR0_1 HB); (case side4 => exact HC0_1.out); (case side5 => exact uC HR0_2 HB); (case side6 => exact HC0_2.out); rintro e w8 ⟨v103, rfl, ho0, hb⟩; have HO104 := Aside0.mk (Kd.R_lower ho0 (below_size (uB1 HB GE101.out))); replace BK101 := bb BK101 hb; replace HB := Aside0.mk (below_step (uB1 HB GE101.out) hb); (try clear hb); (try clear hb2); (try clear hk); (try clear hi); (try clear ho0); obtain ⟨hcz9_0, hcz9_1, hcz9_2, hfz9_0, hfz9_1, hfz9_2⟩ := bc3 BK101) | (go_at_call 92; (with_reducible refine (spec_l8Up.calls _ _ l0_0 _ _ l0_1 _ _ l0_2 a2 true t105 _ ?side1 ?side2 ?side3 ?side4 ?side5 ?side6 A5.out).mono ?_); (case side1 => exact uC HR0_0 HB); (case side2 => exact HC0_0.out); (case side3 => exact uC HR0_1 HB); (case side4 => exact HC0_1.out); (case side5 => exact uC HR0_2 HB); (case side6 => exact HC0_2.out); rintro e w10 ⟨v106, rfl, ho0, hb⟩; have HO107 := Aside0.mk (Kd.R_lower (Kd.R_new' ho0 (Kd.R_lt (ur HO104))) (below_size (uB1 HB GE101.out))); replace HO104 := Aside0.mk (Kd.R_elder' (ur HO104) (Kd.R_base ho0) hb); replace BK101 := bb BK101 hb; replace HB := Aside0.mk (below_step (uB1 HB GE101.out) hb); (try clear hb); (try clear hb2); (try clear hk); (try clear hi); (try clear ho0))))
 go_loopg [10, 11, 12] k (fun kq v10 v11 v12 w' => ∃ (x10_1 : Int) (x11_1 : Int) (x12_1 : Int), v10 = .int .i64 x10_1 ∧ v11 = .int .i64 x11_1 ∧ v12 = .int .i64 x12_1 ∧ Aside0 (spec_l8Meet.l0 kq t102 t105 x10_1 x11_1 x12_1 l0_0 l0_1 l0_2 = some (r1, r2)) ∧ Aside0 (kq ≤ k) ∧ Aside0 (Kd.R (Kd.int .i64) 3 w' w.heap.size (fun k_ => some k_ ≠ (v106 : Value).ownBlock) v103 t102) ∧ Aside0 (Kd.R (Kd.int .i64) 3 w' w.heap.size (fun k_ => some k_ ≠ (v103 : Value).ownBlock) v106 t105) ∧ Aside0 (w'.heap[gb101]? = some (.cells #[(.slice A0_0 l0_0.length c0_0), (.slice A0_1 l0_1.length c0_1), (.slice A0_2 l0_2.length c0_2)] 37 (0, 0))) ∧ Aside0 (Below w.heap.size w w'))
 case atStart => exact ⟨(99999), ((-1)), (0), ue, ue, ue, H', ⟨Nat.le_refl _⟩, ⟨by (with_reducible repeat (first | apply Kd.R_alloc | apply Kd.R_drewN | apply Kd.R_drew)); exact Kd.R_mono HO104.out (fun _ hk => hk.2)⟩, ⟨by (with_reducible repeat (first | apply Kd.R_alloc | apply Kd.R_drewN | apply Kd.R_drew)); exact Kd.R_mono HO107.out (fun _ hk => hk.2)⟩, ⟨ub BK101⟩, ⟨uB1 HB GE101.out⟩⟩
 case round =>
  clear H'; try clear p2
  try clear c5
  try clear hcz7_0 hcz7_1 hcz7_2
  try clear hcz9_0 hcz9_1 hcz9_2
  try clear hfz7_0 hfz7_1 hfz7_2
  try clear hfz9_0 hfz9_1 hfz9_2
  obtain ⟨x10_1, x11_1, x12_1, rfl, rfl, rfl, HA, HK1, HO_8, HO_9, BK101, HB⟩ := hrel
  cases gk with
  | zero => exact absurd HA.out (by simp [spec_l8Meet.l0])
  | succ k1 =>
   have H := HA.out; clear HA; simp only [spec_l8Meet.l0] at H; by_cases c11 : x12_1 < (l0_0.length : Int)
   ·
    rw [if_pos c11] at H; have c11b0 := dl c11; clear c11; by_cases c12 : 0 ≤ x12_1
    ·
     rw [if_pos c12] at H; have c12b0 := de c12; clear c12; by_cases c13 : 0 ≤ (rd l0_0 x12_1)
     ·
      rw [if_pos c13] at H; have c13b0 := de c13; clear c13; by_cases c14 : (rd l0_0 x12_1) < (t102.length : Int)
      ·
       rw [if_pos c14] at H; have c14b0 := dl c14; clear c14; by_cases c15 : (rd t102 (rd l0_0 x12_1)) < 99999
       ·
        rw [if_pos c15] at H; have c15b0 := dl c15; clear c15; by_cases c16 : (rd l0_0 x12_1) < (t105.length : Int)
        ·
         rw [if_pos c16] at H; have c16b0 := dl c16; clear c16; by_cases c17 : (rd t105 (rd l0_0 x12_1)) < 99999
         ·
          rw [if_pos c17] at H; have c17b0 := dl c17; clear c17; by_cases c18 : (wrap64 ((rd t102 (rd l0_0 x12_1)) + (rd t105 (rd l0_0 x12_1)))) < x10_1
          ·
           rw [if_pos c18] at H; have c18b0 := dl c18; clear c18; have H' := Aside0.mk H; clear H; obtain ⟨hcz19_0, hcz19_1, hcz19_2, hfz19_0, hfz19_1, hfz19_2⟩ := bc3 BK101; have p108 : 0 ≤ (x12_1 : Int) := ua; have q108 : x12_1 < (l0_0.length : Int) := ua; obtain ⟨ad108, e108, hx108_0⟩ := Kd.at_int HR0_0.out x12_1 p108 q108
           cases e108
           replace hx108_0 := uc HB hx108_0; replace p108 := eq_true p108; replace q108 := eq_true q108; obtain ⟨Ao20, co20, eo20⟩ := Kd.R_slice HO_8.out; subst eo20; have p109 : 0 ≤ ((rd l0_0 x12_1) : Int) := ua; have q109 : (rd l0_0 x12_1) < (t102.length : Int) := ua; obtain ⟨ad109, e109, hx109_0⟩ := Kd.at_int (Kd.R_reads' HO_8.out).2.2 (rd l0_0 x12_1) p109 q109
           cases e109
           replace p109 := eq_true p109; replace q109 := eq_true q109; obtain ⟨Ao21, co21, eo21⟩ := Kd.R_slice HO_9.out; subst eo21; have p110 : 0 ≤ ((rd l0_0 x12_1) : Int) := ua; have q110 : (rd l0_0 x12_1) < (t105.length : Int) := ua; obtain ⟨ad110, e110, hx110_0⟩ := Kd.at_int (Kd.R_reads' HO_9.out).2.2 (rd l0_0 x12_1) p110 q110
           cases e110
           replace p110 := eq_true p110; replace q110 := eq_true q110; have p111 : 0 ≤ ((rd l0_0 x12_1) : Int) := ua; have q111 : (rd l0_0 x12_1) < (t102.length : Int) := ua; obtain ⟨ad111, e111, hx111_0⟩ := Kd.at_int (Kd.R_reads' HO_8.out).2.2 (rd l0_0 x12_1) p111 q111; obtain rfl : ad109 = ad111 := (by injection e111)
           replace p111 := eq_true p111; replace q111 := eq_true q111; have p112 : 0 ≤ ((rd l0_0 x12_1) : Int) := ua; have q112 : (rd l0_0 x12_1) < (t105.length : Int) := ua; obtain ⟨ad112, e112, hx112_0⟩ := Kd.at_int (Kd.R_reads' HO_9.out).2.2 (rd l0_0 x12_1) p112 q112; obtain rfl : ad110 = ad112 := (by injection e112)
           replace p112 := eq_true p112; replace q112 := eq_true q112; have p113 : 0 ≤ ((rd l0_0 x12_1) : Int) := ua; have q113 : (rd l0_0 x12_1) < (t102.length : Int) := ua; obtain ⟨ad113, e113, hx113_0⟩ := Kd.at_int (Kd.R_reads' HO_8.out).2.2 (rd l0_0 x12_1) p113 q113; obtain rfl : ad109 = ad113 := (by injection e113)
           replace p113 := eq_true p113; replace q113 := eq_true q113; have p114 : 0 ≤ ((rd l0_0 x12_1) : Int) := ua; have q114 : (rd l0_0 x12_1) < (t105.length : Int) := ua; obtain ⟨ad114, e114, hx114_0⟩ := Kd.at_int (Kd.R_reads' HO_9.out).2.2 (rd l0_0 x12_1) p114 q114; obtain rfl : ad110 = ad114 := (by injection e114)
           replace p114 := eq_true p114; replace q114 := eq_true q114; go_wp2
           repeat (go_quiet (fail); try go_wp2)
           go_roundg k1
           case measure => have := HK1.out; omega
           case rel => exact ⟨(wrap64 ((rd t102 (rd l0_0 x12_1)) + (rd t105 (rd l0_0 x12_1)))), (rd l0_0 x12_1), (wrap64 (x12_1 + 1)), ue, ue, ue, H', ⟨by have := HK1.out; omega⟩, ⟨ur HO_8⟩, ⟨ur HO_9⟩, ⟨ub BK101⟩, ⟨uB1 HB GE101.out⟩⟩
          ·
           rw [if_neg c18] at H; have c18b0 := DL c18; clear c18; have H' := Aside0.mk H; clear H; obtain ⟨hcz22_0, hcz22_1, hcz22_2, hfz22_0, hfz22_1, hfz22_2⟩ := bc3 BK101; have p108 : 0 ≤ (x12_1 : Int) := ua; have q108 : x12_1 < (l0_0.length : Int) := ua; obtain ⟨ad108, e108, hx108_0⟩ := Kd.at_int HR0_0.out x12_1 p108 q108
           cases e108
           replace hx108_0 := uc HB hx108_0; replace p108 := eq_true p108; replace q108 := eq_true q108; obtain ⟨Ao23, co23, eo23⟩ := Kd.R_slice HO_8.out; subst eo23; have p109 : 0 ≤ ((rd l0_0 x12_1) : Int) := ua; have q109 : (rd l0_0 x12_1) < (t102.length : Int) := ua; obtain ⟨ad109, e109, hx109_0⟩ := Kd.at_int (Kd.R_reads' HO_8.out).2.2 (rd l0_0 x12_1) p109 q109
           cases e109
           replace p109 := eq_true p109; replace q109 := eq_true q109; obtain ⟨Ao24, co24, eo24⟩ := Kd.R_slice HO_9.out; subst eo24; have p110 : 0 ≤ ((rd l0_0 x12_1) : Int) := ua; have q110 : (rd l0_0 x12_1) < (t105.length : Int) := ua; obtain ⟨ad110, e110, hx110_0⟩ := Kd.at_int (Kd.R_reads' HO_9.out).2.2 (rd l0_0 x12_1) p110 q110
           cases e110
           replace p110 := eq_true p110; replace q110 := eq_true q110; have p111 : 0 ≤ ((rd l0_0 x12_1) : Int) := ua; have q111 : (rd l0_0 x12_1) < (t102.length : Int) := ua; obtain ⟨ad111, e111, hx111_0⟩ := Kd.at_int (Kd.R_reads' HO_8.out).2.2 (rd l0_0 x12_1) p111 q111; obtain rfl : ad109 = ad111 := (by injection e111)
           replace p111 := eq_true p111; replace q111 := eq_true q111; have p112 : 0 ≤ ((rd l0_0 x12_1) : Int) := ua; have q112 : (rd l0_0 x12_1) < (t105.length : Int) := ua; obtain ⟨ad112, e112, hx112_0⟩ := Kd.at_int (Kd.R_reads' HO_9.out).2.2 (rd l0_0 x12_1) p112 q112; obtain rfl : ad110 = ad112 := (by injection e112)
           replace p112 := eq_true p112; replace q112 := eq_true q112; go_wp2
           repeat (go_quiet (fail); try go_wp2)
           go_roundg k1
           case measure => have := HK1.out; omega
           case rel => exact ⟨(x10_1), (x11_1), (wrap64 (x12_1 + 1)), ue, ue, ue, H', ⟨by have := HK1.out; omega⟩, ⟨ur HO_8⟩, ⟨ur HO_9⟩, ⟨ub BK101⟩, ⟨uB1 HB GE101.out⟩⟩
         ·
          rw [if_neg c17] at H; have c17b0 := DL c17; clear c17; have H' := Aside0.mk H; clear H; obtain ⟨hcz25_0, hcz25_1, hcz25_2, hfz25_0, hfz25_1, hfz25_2⟩ := bc3 BK101; have p108 : 0 ≤ (x12_1 : Int) := ua; have q108 : x12_1 < (l0_0.length : Int) := ua; obtain ⟨ad108, e108, hx108_0⟩ := Kd.at_int HR0_0.out x12_1 p108 q108
          cases e108
          replace hx108_0 := uc HB hx108_0; replace p108 := eq_true p108; replace q108 := eq_true q108; obtain ⟨Ao26, co26, eo26⟩ := Kd.R_slice HO_8.out; subst eo26; have p109 : 0 ≤ ((rd l0_0 x12_1) : Int) := ua; have q109 : (rd l0_0 x12_1) < (t102.length : Int) := ua; obtain ⟨ad109, e109, hx109_0⟩ := Kd.at_int (Kd.R_reads' HO_8.out).2.2 (rd l0_0 x12_1) p109 q109
          cases e109
          replace p109 := eq_true p109; replace q109 := eq_true q109; obtain ⟨Ao27, co27, eo27⟩ := Kd.R_slice HO_9.out; subst eo27; have p110 : 0 ≤ ((rd l0_0 x12_1) : Int) := ua; have q110 : (rd l0_0 x12_1) < (t105.length : Int) := ua; obtain ⟨ad110, e110, hx110_0⟩ := Kd.at_int (Kd.R_reads' HO_9.out).2.2 (rd l0_0 x12_1) p110 q110
          cases e110
          replace p110 := eq_true p110; replace q110 := eq_true q110; go_wp2
          repeat (go_quiet (fail); try go_wp2)
          go_roundg k1
          case measure => have := HK1.out; omega
          case rel => exact ⟨(x10_1), (x11_1), (wrap64 (x12_1 + 1)), ue, ue, ue, H', ⟨by have := HK1.out; omega⟩, ⟨ur HO_8⟩, ⟨ur HO_9⟩, ⟨ub BK101⟩, ⟨uB1 HB GE101.out⟩⟩
        ·
         rw [if_neg c16] at H; exact absurd H (by simp)
       ·
        rw [if_neg c15] at H; have c15b0 := DL c15; clear c15; have H' := Aside0.mk H; clear H; obtain ⟨hcz28_0, hcz28_1, hcz28_2, hfz28_0, hfz28_1, hfz28_2⟩ := bc3 BK101; have p108 : 0 ≤ (x12_1 : Int) := ua; have q108 : x12_1 < (l0_0.length : Int) := ua; obtain ⟨ad108, e108, hx108_0⟩ := Kd.at_int HR0_0.out x12_1 p108 q108
        cases e108
        replace hx108_0 := uc HB hx108_0; replace p108 := eq_true p108; replace q108 := eq_true q108; obtain ⟨Ao29, co29, eo29⟩ := Kd.R_slice HO_8.out; subst eo29; have p109 : 0 ≤ ((rd l0_0 x12_1) : Int) := ua; have q109 : (rd l0_0 x12_1) < (t102.length : Int) := ua; obtain ⟨ad109, e109, hx109_0⟩ := Kd.at_int (Kd.R_reads' HO_8.out).2.2 (rd l0_0 x12_1) p109 q109
        cases e109
        replace p109 := eq_true p109; replace q109 := eq_true q109; go_wp2
        repeat (go_quiet (fail); try go_wp2)
        go_roundg k1
        case measure => have := HK1.out; omega
        case rel => exact ⟨(x10_1), (x11_1), (wrap64 (x12_1 + 1)), ue, ue, ue, H', ⟨by have := HK1.out; omega⟩, ⟨ur HO_8⟩, ⟨ur HO_9⟩, ⟨ub BK101⟩, ⟨uB1 HB GE101.out⟩⟩
      ·
       rw [if_neg c14] at H; exact absurd H (by simp)
     ·
      rw [if_neg c13] at H; exact absurd H (by simp)
    ·
     rw [if_neg c12] at H; exact absurd H (by simp)
   ·
    rw [if_neg c11] at H; have c11b0 := DL c11; clear c11; simp only [Option.some.injEq, Prod.mk.injEq] at H; obtain ⟨rfl, rfl⟩ := H; obtain ⟨hcz30_0, hcz30_1, hcz30_2, hfz30_0, hfz30_1, hfz30_2⟩ := bc3 BK101; go_wp2
    repeat (go_quiet (fail); try go_wp2)
    go_ret2; exact ⟨ux, uB1 HB GE101.out⟩

end Go.Proofs.Ytdlaaccnaokdnaa.P
