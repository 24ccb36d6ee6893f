/- ChannelCheaper: the walk of the law, and what it comes to. -/
import Derived.Test.YtdmdahafiiggiabGreatDoorF6
set_option linter.unusedVariables false
set_option linter.unusedSimpArgs false
section
namespace Go.Proofs.YtdmdahafiiggiabGreatDoor.K
open Go.RowKit Go.Proofs.YtdmdahafiiggiabGreatDoorW.PrintWords Go.Proofs.YtdmdahafiiggiabGreatDoorW.PrintLast Go.Proofs.YtdmdahafiiggiabGreatDoorW.PrintMore
attribute [local go_sem] max2_int min2_int max_two min_two max_three min_three max_four min_four
mutual
def quinarialaw02_ChannelCheaper.j0 : Nat → List (S53) → List Int → Bool → Int → Int → List (S23) → List Int → Option (Bool)
 | 0, _, _, _, _, _, _, _ => none
 | k + 1, x1, x2, x37, x801000, x801001, x801002, x801003 => if x37 = true then ((quinarialaw02_known.f k).bind fun t805 => (some t805)) else ((channel_Pipes.f x801000 x801001 x801002 x801003 x1).bind fun bt806 => ((quinariaref02_Suffices.f k x801000 x801001 x801002 x801003 x1 x2).bind fun t811 => (if bt806.2.2 = 0 then ((quinariaref02_Chosen.f k x801000 x801001 x801002 x801003 x1 bt806.1).bind fun t813 => (if t813 = true then ((quinariaref02_Suffices.f k x801000 x801001 x801002 x801003 x1 bt806.1).bind fun t814 => (if t814 = true then ((quinariaref02_Price.f k x801000 x801001 x801002 x801003 x1 bt806.1).bind fun t815 => (quinarialaw02_ChannelCheaper.j1 k x1 x2 bt806.1 bt806.2.1 t811 (bt806.2.1 != t815) x801000 x801001 x801002 x801003)) else (quinarialaw02_ChannelCheaper.j1 k x1 x2 bt806.1 bt806.2.1 t811 true x801000 x801001 x801002 x801003))) else (quinarialaw02_ChannelCheaper.j1 k x1 x2 bt806.1 bt806.2.1 t811 true x801000 x801001 x801002 x801003))) else (if bt806.2.2 = 5 then (if t811 = true then (some false) else ((quinarialaw02_known.f k).bind fun t812 => (some t812))) else (some false)))))
def quinarialaw02_ChannelCheaper.j1 : Nat → List (S53) → List Int → List Int → Int → Bool → Bool → Int → Int → List (S23) → List Int → Option (Bool)
 | 0, _, _, _, _, _, _, _, _, _, _ => none
 | k + 1, x1, x2, x7, x8, x10, x80, x801000, x801001, x801002, x801003 => if x80 = true then (some false) else ((quinariaref02_Price.f k x801000 x801001 x801002 x801003 x1 x2).bind fun t816 => (if x10 = true then (if t816 > x8 then ((quinarialaw02_known.f k).bind fun t817 => (some t817)) else (if t816 = x8 then ((quinariaref02_Before.f k x2 x7).bind fun t818 => (if t818 = true then (some false) else ((quinarialaw02_known.f k).bind fun t819 => (some t819)))) else (some false))) else ((quinarialaw02_known.f k).bind fun t820 => (some t820))))
end
def quinarialaw02_ChannelCheaper.f (k : Nat) (a0_0 : Int) (a0_1 : Int) (l0_2 : List (S23)) (l0_3 : List Int) (l1 : List (S53)) (l2 : List Int) : Option (Bool) := (quinarialaw02_slim.f a0_0 a0_1 l0_2 l0_3 l1).bind fun t801 => (if t801 = true then (if (l2.length : Int) > 10 then (quinarialaw02_ChannelCheaper.j0 k l1 l2 true a0_0 a0_1 l0_2 l0_3) else ((quinariaref02_Siphon.f k a0_0 a0_1 l0_2 l0_3).bind fun t802 => (if t802 = true then ((quinariaref02_Classes.f k l1).bind fun t803 => (if t803 = true then ((quinariaref02_Chosen.f k a0_0 a0_1 l0_2 l0_3 l1 l2).bind fun t804 => (quinarialaw02_ChannelCheaper.j0 k l1 l2 (!t804) a0_0 a0_1 l0_2 l0_3)) else (quinarialaw02_ChannelCheaper.j0 k l1 l2 true a0_0 a0_1 l0_2 l0_3))) else (quinarialaw02_ChannelCheaper.j0 k l1 l2 true a0_0 a0_1 l0_2 l0_3)))) else (quinarialaw02_ChannelCheaper.j0 k l1 l2 true a0_0 a0_1 l0_2 l0_3))
set_option maxHeartbeats 8000000 in
set_option maxRecDepth 100000 in
theorem quinarialaw02_ChannelCheaper.calls (k : Nat) (a0_0 : Int) (a0_1 : Int) (A0_2 : Option Addr) (c0_2 : Nat) (l0_2 : List (S23)) (A0_3 : Option Addr) (c0_3 : Nat) (l0_3 : List Int) (A1 : Option Addr) (c1 : Nat) (l1 : List (S53)) (A2 : Option Addr) (c2 : Nat) (l2 : List Int) (r : Bool) (w : World) (hr0_2 : Kd.C k23 w A0_2 l0_2.length l0_2) (hc0_2 : l0_2.length ≤ c0_2) (hr0_3 : Kd.C (Kd.int .i64) w A0_3 l0_3.length l0_3) (hc0_3 : l0_3.length ≤ c0_3) (hr1 : Kd.C k53 w A1 l1.length l1) (hc1 : l1.length ≤ c1) (hr2 : Kd.C (Kd.int .i64) w A2 l2.length l2) (hc2 : l2.length ≤ c2) (hT : TabW w) (h : quinarialaw02_ChannelCheaper.f k a0_0 a0_1 l0_2 l0_3 l1 l2 = some r) :
  Calls Tryz.prog 8 #[.agg #[.int .i64 a0_0, .int .i64 a0_1, .slice A0_2 l0_2.length c0_2, .slice A0_3 l0_3.length c0_3], .slice A1 l1.length c1, .slice A2 l2.length c2] w fun e w' => e = .returned (.bool r) ∧ Below w.heap.size w w' := by
 have HT := Aside0.mk hT
 clear hT
 have hu27 := Tryz.underlying27
 have HR0_2 := Aside0.mk hr0_2
 have HC0_2 := Aside0.mk hc0_2
 clear hr0_2 hc0_2
 have HR0_3 := Aside0.mk hr0_3
 have HC0_3 := Aside0.mk hc0_3
 clear hr0_3 hc0_3
 have HR1 := Aside0.mk hr1
 have HC1 := Aside0.mk hc1
 clear hr1 hc1
 have HR2 := Aside0.mk hr2
 have HC2 := Aside0.mk hc2
 clear hr2 hc2
 have HB := Aside0.mk (Below.refl w.heap.size w)
 have H : ((quinarialaw02_slim.f a0_0 a0_1 l0_2 l0_3 l1).bind fun t801 => (if t801 = true then (if (l2.length : Int) > 10 then (quinarialaw02_ChannelCheaper.j0 k l1 l2 true a0_0 a0_1 l0_2 l0_3) else ((quinariaref02_Siphon.f k a0_0 a0_1 l0_2 l0_3).bind fun t802 => (if t802 = true then ((quinariaref02_Classes.f k l1).bind fun t803 => (if t803 = true then ((quinariaref02_Chosen.f k a0_0 a0_1 l0_2 l0_3 l1 l2).bind fun t804 => (quinarialaw02_ChannelCheaper.j0 k l1 l2 (!t804) a0_0 a0_1 l0_2 l0_3)) else (quinarialaw02_ChannelCheaper.j0 k l1 l2 true a0_0 a0_1 l0_2 l0_3))) else (quinarialaw02_ChannelCheaper.j0 k l1 l2 true a0_0 a0_1 l0_2 l0_3)))) else (quinarialaw02_ChannelCheaper.j0 k l1 l2 true a0_0 a0_1 l0_2 l0_3))) = some r := h
 clear h
 have HC4 := Aside0.mk H
 clear H
 go_enter Tryz.func8, Tryz.ntmps8
 go_upto_region 1 with (first | ((with_reducible refine gate_dst (N := 3) rfl ?_); (try (refine gate_guard (by rfl) ?_; dsimp only)); refine bxe 3 #[.int .i64 a0_0, .int .i64 a0_1, .slice A0_2 l0_2.length c0_2, .slice A0_3 l0_3.length c0_3] 27 ?_; intro gb800 hg w5 hbox hb; have n0_ := Aside0.mk (below_step uB hb); have n1_ := Aside0.mk (hbox); have n2_ := gw hg; have n3_ := gw hg; clear HB; have HB := n0_; have BK800 := n1_; have GW800 := n2_; have GE800 := n3_; clear n0_ n1_ n2_ n3_; clear hb hbox hg))
 (try simp only [Act.put, List.setIfInBounds_toArray, List.set_cons_zero, List.set_cons_succ])
 go_cut [37] (fun v37 wc => ∃ (kq : Nat) (x37_3 : Bool), v37 = .bool x37_3 ∧ Aside0 (quinarialaw02_ChannelCheaper.j0 kq l1 l2 x37_3 a0_0 a0_1 l0_2 l0_3 = some r) ∧ Aside0 (kq ≤ k) ∧ Aside0 (wc.heap[gb800]? = some (.cells #[.int .i64 a0_0, .int .i64 a0_1, (.slice A0_2 l0_2.length c0_2), (.slice A0_3 l0_3.length c0_3)] 27 (0, 0))) ∧ Aside0 (Below w.heap.size w wc))
 case first =>
  as_aux_lemma =>
   have H := HC4.out
   clear HC4
   replace H := Option.bind_eq_some_iff.mp H
   obtain ⟨t801, A60, H⟩ := H
   replace H : (if t801 = true then (if (l2.length : Int) > 10 then (quinarialaw02_ChannelCheaper.j0 k l1 l2 true a0_0 a0_1 l0_2 l0_3) else ((quinariaref02_Siphon.f k a0_0 a0_1 l0_2 l0_3).bind fun t802 => (if t802 = true then ((quinariaref02_Classes.f k l1).bind fun t803 => (if t803 = true then ((quinariaref02_Chosen.f k a0_0 a0_1 l0_2 l0_3 l1 l2).bind fun t804 => (quinarialaw02_ChannelCheaper.j0 k l1 l2 (!t804) a0_0 a0_1 l0_2 l0_3)) else (quinarialaw02_ChannelCheaper.j0 k l1 l2 true a0_0 a0_1 l0_2 l0_3))) else (quinarialaw02_ChannelCheaper.j0 k l1 l2 true a0_0 a0_1 l0_2 l0_3)))) else (quinarialaw02_ChannelCheaper.j0 k l1 l2 true a0_0 a0_1 l0_2 l0_3)) = some r := H
   have A6 := Aside0.mk A60
   clear A60
   by_cases c7 : t801 = true
   ·subst c7
    have H1 : (if (l2.length : Int) > 10 then (quinarialaw02_ChannelCheaper.j0 k l1 l2 true a0_0 a0_1 l0_2 l0_3) else ((quinariaref02_Siphon.f k a0_0 a0_1 l0_2 l0_3).bind fun t802 => (if t802 = true then ((quinariaref02_Classes.f k l1).bind fun t803 => (if t803 = true then ((quinariaref02_Chosen.f k a0_0 a0_1 l0_2 l0_3 l1 l2).bind fun t804 => (quinarialaw02_ChannelCheaper.j0 k l1 l2 (!t804) a0_0 a0_1 l0_2 l0_3)) else (quinarialaw02_ChannelCheaper.j0 k l1 l2 true a0_0 a0_1 l0_2 l0_3))) else (quinarialaw02_ChannelCheaper.j0 k l1 l2 true a0_0 a0_1 l0_2 l0_3)))) = some r := by rw [if_pos rfl] at H; exact H
    clear H
    have H := H1
    clear H1
    by_cases c8 : (l2.length : Int) > 10
    ·rw [if_pos c8] at H
     have c8b0 : decide (10 < (l2.length : Int)) = true := decide_eq_true c8
     have c8b1 : decide (10 < l2.length) = true := decide_eq_true (by omega)
     clear c8
     (first | rw [c8b0] | (simp only [i64_w, i32_w]; rw [c8b0]) | skip)
     have H' := Aside0.mk H
     clear H
     obtain ⟨hcz9_0, hcz9_1, hcz9_2, hcz9_3⟩ := cz4 BK800.out
     obtain ⟨hfz9_0, hfz9_1, hfz9_2, hfz9_3⟩ := fz4 BK800.out
     go_wp2_with (first | ((with_reducible refine gate_callee (f := 13) rfl ?_); refine goesL_ (some 14) rfl rfl Tryz.func13 (by kernel_rfl) rfl #[.agg #[.int .i64 a0_0, .int .i64 a0_1, .slice A0_2 l0_2.length c0_2, .slice A0_3 l0_3.length c0_3], .slice A1 l1.length c1] rfl uM ?_; (with_reducible refine (quinarialaw02_slim.calls a0_0 a0_1 _ _ l0_2 _ _ l0_3 _ _ l1 true _ ?side1 ?side2 ?side3 ?side4 ?side5 ?side6 A6.out).mono ?_); (case side1 => repeat (first | exact (Kd.C_below HR0_2.out HB.out) | (with_reducible refine Kd.C_alloc ?_ _) | (with_reducible refine Kd.C_drewN ?_ _) | (with_reducible refine Kd.C_drew ?_))); (case side2 => exact HC0_2.out); (case side3 => repeat (first | exact (Kd.C_below HR0_3.out HB.out) | (with_reducible refine Kd.C_alloc ?_ _) | (with_reducible refine Kd.C_drewN ?_ _) | (with_reducible refine Kd.C_drew ?_))); (case side4 => exact HC0_3.out); (case side5 => repeat (first | exact (Kd.C_below HR1.out HB.out) | (with_reducible refine Kd.C_alloc ?_ _) | (with_reducible refine Kd.C_drewN ?_ _) | (with_reducible refine Kd.C_drew ?_))); (case side6 => exact HC1.out); rintro e w10 ⟨rfl, hb⟩; refine ⟨_, rfl, ?_⟩; replace BK800 := Aside0.mk (blk_below (uK BK800.out) hb); replace HB := Aside0.mk (below_step uB hb); (try clear hb); (try clear hb2); (try clear hk); (try clear hi)))
     go_meet
     case rel => exact ⟨_, (true), u0, H', ⟨u1⟩, ⟨uK BK800.out⟩, ⟨uB⟩⟩
    ·rw [if_neg c8] at H
     have c8b0 : decide (10 < (l2.length : Int)) = false := decide_eq_false c8
     have c8b1 : decide (10 < l2.length) = false := decide_eq_false (by omega)
     clear c8
     (first | rw [c8b0] | (simp only [i64_w, i32_w]; rw [c8b0]) | skip)
     replace H := Option.bind_eq_some_iff.mp H
     obtain ⟨t802, A110, H⟩ := H
     replace H : (if t802 = true then ((quinariaref02_Classes.f k l1).bind fun t803 => (if t803 = true then ((quinariaref02_Chosen.f k a0_0 a0_1 l0_2 l0_3 l1 l2).bind fun t804 => (quinarialaw02_ChannelCheaper.j0 k l1 l2 (!t804) a0_0 a0_1 l0_2 l0_3)) else (quinarialaw02_ChannelCheaper.j0 k l1 l2 true a0_0 a0_1 l0_2 l0_3))) else (quinarialaw02_ChannelCheaper.j0 k l1 l2 true a0_0 a0_1 l0_2 l0_3)) = some r := H
     have A11 := Aside0.mk A110
     clear A110
     by_cases c12 : t802 = true
     ·subst c12
      have H1 : ((quinariaref02_Classes.f k l1).bind fun t803 => (if t803 = true then ((quinariaref02_Chosen.f k a0_0 a0_1 l0_2 l0_3 l1 l2).bind fun t804 => (quinarialaw02_ChannelCheaper.j0 k l1 l2 (!t804) a0_0 a0_1 l0_2 l0_3)) else (quinarialaw02_ChannelCheaper.j0 k l1 l2 true a0_0 a0_1 l0_2 l0_3))) = some r := by rw [if_pos rfl] at H; exact H
      clear H
      have H := H1
      clear H1
      replace H := Option.bind_eq_some_iff.mp H
      obtain ⟨t803, A130, H⟩ := H
      replace H : (if t803 = true then ((quinariaref02_Chosen.f k a0_0 a0_1 l0_2 l0_3 l1 l2).bind fun t804 => (quinarialaw02_ChannelCheaper.j0 k l1 l2 (!t804) a0_0 a0_1 l0_2 l0_3)) else (quinarialaw02_ChannelCheaper.j0 k l1 l2 true a0_0 a0_1 l0_2 l0_3)) = some r := H
      have A13 := Aside0.mk A130
      clear A130
      by_cases c14 : t803 = true
      ·subst c14
       have H1 : ((quinariaref02_Chosen.f k a0_0 a0_1 l0_2 l0_3 l1 l2).bind fun t804 => (quinarialaw02_ChannelCheaper.j0 k l1 l2 (!t804) a0_0 a0_1 l0_2 l0_3)) = some r := by rw [if_pos rfl] at H; exact H
       clear H
       have H := H1
       clear H1
       replace H := Option.bind_eq_some_iff.mp H
       obtain ⟨t804, A150, H⟩ := H
       replace H : (quinarialaw02_ChannelCheaper.j0 k l1 l2 (!t804) a0_0 a0_1 l0_2 l0_3) = some r := H
       have A15 := Aside0.mk A150
       clear A150
       have H' := Aside0.mk H
       clear H
       obtain ⟨hcz16_0, hcz16_1, hcz16_2, hcz16_3⟩ := cz4 BK800.out
       obtain ⟨hfz16_0, hfz16_1, hfz16_2, hfz16_3⟩ := fz4 BK800.out
       go_wp2_with (first | ((with_reducible refine gate_callee (f := 13) rfl ?_); refine goesL_ (some 14) rfl rfl Tryz.func13 (by kernel_rfl) rfl #[.agg #[.int .i64 a0_0, .int .i64 a0_1, .slice A0_2 l0_2.length c0_2, .slice A0_3 l0_3.length c0_3], .slice A1 l1.length c1] rfl uM ?_; (with_reducible refine (quinarialaw02_slim.calls a0_0 a0_1 _ _ l0_2 _ _ l0_3 _ _ l1 true _ ?side1 ?side2 ?side3 ?side4 ?side5 ?side6 A6.out).mono ?_); (case side1 => repeat (first | exact (Kd.C_below HR0_2.out HB.out) | (with_reducible refine Kd.C_alloc ?_ _) | (with_reducible refine Kd.C_drewN ?_ _) | (with_reducible refine Kd.C_drew ?_))); (case side2 => exact HC0_2.out); (case side3 => repeat (first | exact (Kd.C_below HR0_3.out HB.out) | (with_reducible refine Kd.C_alloc ?_ _) | (with_reducible refine Kd.C_drewN ?_ _) | (with_reducible refine Kd.C_drew ?_))); (case side4 => exact HC0_3.out); (case side5 => repeat (first | exact (Kd.C_below HR1.out HB.out) | (with_reducible refine Kd.C_alloc ?_ _) | (with_reducible refine Kd.C_drewN ?_ _) | (with_reducible refine Kd.C_drew ?_))); (case side6 => exact HC1.out); rintro e w17 ⟨rfl, hb⟩; refine ⟨_, rfl, ?_⟩; replace BK800 := Aside0.mk (blk_below (uK BK800.out) hb); replace HB := Aside0.mk (below_step uB hb); (try clear hb); (try clear hb2); (try clear hk); (try clear hi); obtain ⟨hcz18_0, hcz18_1, hcz18_2, hcz18_3⟩ := cz4 BK800.out; obtain ⟨hfz18_0, hfz18_1, hfz18_2, hfz18_3⟩ := fz4 BK800.out) | (go_at_call 17; (with_reducible refine (quinariaref02_Siphon.calls k a0_0 a0_1 _ _ l0_2 _ _ l0_3 true _ ?side1 ?side2 ?side3 ?side4 A11.out).mono ?_); (case side1 => repeat (first | exact (Kd.C_below HR0_2.out HB.out) | (with_reducible refine Kd.C_alloc ?_ _) | (with_reducible refine Kd.C_drewN ?_ _) | (with_reducible refine Kd.C_drew ?_))); (case side2 => exact HC0_2.out); (case side3 => repeat (first | exact (Kd.C_below HR0_3.out HB.out) | (with_reducible refine Kd.C_alloc ?_ _) | (with_reducible refine Kd.C_drewN ?_ _) | (with_reducible refine Kd.C_drew ?_))); (case side4 => exact HC0_3.out); rintro e w19 ⟨rfl, hb⟩; replace BK800 := Aside0.mk (blk_below (uK BK800.out) hb); replace HB := Aside0.mk (below_step uB hb); (try clear hb); (try clear hb2); (try clear hk); (try clear hi)) | (go_at_call 24; (with_reducible refine (quinariaref02_Classes.calls k _ _ l1 true _ ?side1 ?side2 A13.out).mono ?_); (case side1 => repeat (first | exact (Kd.C_below HR1.out HB.out) | (with_reducible refine Kd.C_alloc ?_ _) | (with_reducible refine Kd.C_drewN ?_ _) | (with_reducible refine Kd.C_drew ?_))); (case side2 => exact HC1.out); rintro e w' ⟨rfl, ⟨nd, rfl⟩⟩; obtain ⟨hcz20_0, hcz20_1, hcz20_2, hcz20_3⟩ := cz4 BK800.out; obtain ⟨hfz20_0, hfz20_1, hfz20_2, hfz20_3⟩ := fz4 BK800.out) | (go_at_call 25; (with_reducible refine (quinariaref02_Chosen.calls k a0_0 a0_1 _ _ l0_2 _ _ l0_3 _ _ l1 _ _ l2 t804 _ ?side1 ?side2 ?side3 ?side4 ?side5 ?side6 ?side7 ?side8 A15.out).mono ?_); (case side1 => repeat (first | exact (Kd.C_below HR0_2.out uB) | (with_reducible refine Kd.C_alloc ?_ _) | (with_reducible refine Kd.C_drewN ?_ _) | (with_reducible refine Kd.C_drew ?_))); (case side2 => exact HC0_2.out); (case side3 => repeat (first | exact (Kd.C_below HR0_3.out uB) | (with_reducible refine Kd.C_alloc ?_ _) | (with_reducible refine Kd.C_drewN ?_ _) | (with_reducible refine Kd.C_drew ?_))); (case side4 => exact HC0_3.out); (case side5 => repeat (first | exact (Kd.C_below HR1.out uB) | (with_reducible refine Kd.C_alloc ?_ _) | (with_reducible refine Kd.C_drewN ?_ _) | (with_reducible refine Kd.C_drew ?_))); (case side6 => exact HC1.out); (case side7 => repeat (first | exact (Kd.C_below HR2.out uB) | (with_reducible refine Kd.C_alloc ?_ _) | (with_reducible refine Kd.C_drewN ?_ _) | (with_reducible refine Kd.C_drew ?_))); (case side8 => exact HC2.out); rintro e w21 ⟨rfl, hb⟩; replace BK800 := Aside0.mk (blk_below (uK BK800.out) hb); replace HB := Aside0.mk (below_step uB hb); (try clear hb); (try clear hb2); (try clear hk); (try clear hi)))
       go_meet
       case rel => exact ⟨_, (!t804), u0, H', ⟨u1⟩, ⟨uK BK800.out⟩, ⟨uB⟩⟩
      ·replace c14 := Bool.eq_false_iff.mpr c14
       subst c14
       have H1 : (quinarialaw02_ChannelCheaper.j0 k l1 l2 true a0_0 a0_1 l0_2 l0_3) = some r := by rw [if_neg (show ¬ (false = true) by decide)] at H; exact H
       clear H
       have H := H1
       clear H1
       have H' := Aside0.mk H
       clear H
       obtain ⟨hcz22_0, hcz22_1, hcz22_2, hcz22_3⟩ := cz4 BK800.out
       obtain ⟨hfz22_0, hfz22_1, hfz22_2, hfz22_3⟩ := fz4 BK800.out
       go_wp2_with (first | ((with_reducible refine gate_callee (f := 13) rfl ?_); refine goesL_ (some 14) rfl rfl Tryz.func13 (by kernel_rfl) rfl #[.agg #[.int .i64 a0_0, .int .i64 a0_1, .slice A0_2 l0_2.length c0_2, .slice A0_3 l0_3.length c0_3], .slice A1 l1.length c1] rfl uM ?_; (with_reducible refine (quinarialaw02_slim.calls a0_0 a0_1 _ _ l0_2 _ _ l0_3 _ _ l1 true _ ?side1 ?side2 ?side3 ?side4 ?side5 ?side6 A6.out).mono ?_); (case side1 => repeat (first | exact (Kd.C_below HR0_2.out HB.out) | (with_reducible refine Kd.C_alloc ?_ _) | (with_reducible refine Kd.C_drewN ?_ _) | (with_reducible refine Kd.C_drew ?_))); (case side2 => exact HC0_2.out); (case side3 => repeat (first | exact (Kd.C_below HR0_3.out HB.out) | (with_reducible refine Kd.C_alloc ?_ _) | (with_reducible refine Kd.C_drewN ?_ _) | (with_reducible refine Kd.C_drew ?_))); (case side4 => exact HC0_3.out); (case side5 => repeat (first | exact (Kd.C_below HR1.out HB.out) | (with_reducible refine Kd.C_alloc ?_ _) | (with_reducible refine Kd.C_drewN ?_ _) | (with_reducible refine Kd.C_drew ?_))); (case side6 => exact HC1.out); rintro e w23 ⟨rfl, hb⟩; refine ⟨_, rfl, ?_⟩; replace BK800 := Aside0.mk (blk_below (uK BK800.out) hb); replace HB := Aside0.mk (below_step uB hb); (try clear hb); (try clear hb2); (try clear hk); (try clear hi); obtain ⟨hcz24_0, hcz24_1, hcz24_2, hcz24_3⟩ := cz4 BK800.out; obtain ⟨hfz24_0, hfz24_1, hfz24_2, hfz24_3⟩ := fz4 BK800.out) | (go_at_call 17; (with_reducible refine (quinariaref02_Siphon.calls k a0_0 a0_1 _ _ l0_2 _ _ l0_3 true _ ?side1 ?side2 ?side3 ?side4 A11.out).mono ?_); (case side1 => repeat (first | exact (Kd.C_below HR0_2.out HB.out) | (with_reducible refine Kd.C_alloc ?_ _) | (with_reducible refine Kd.C_drewN ?_ _) | (with_reducible refine Kd.C_drew ?_))); (case side2 => exact HC0_2.out); (case side3 => repeat (first | exact (Kd.C_below HR0_3.out HB.out) | (with_reducible refine Kd.C_alloc ?_ _) | (with_reducible refine Kd.C_drewN ?_ _) | (with_reducible refine Kd.C_drew ?_))); (case side4 => exact HC0_3.out); rintro e w25 ⟨rfl, hb⟩; replace BK800 := Aside0.mk (blk_below (uK BK800.out) hb); replace HB := Aside0.mk (below_step uB hb); (try clear hb); (try clear hb2); (try clear hk); (try clear hi)) | (go_at_call 24; (with_reducible refine (quinariaref02_Classes.calls k _ _ l1 false _ ?side1 ?side2 A13.out).mono ?_); (case side1 => repeat (first | exact (Kd.C_below HR1.out HB.out) | (with_reducible refine Kd.C_alloc ?_ _) | (with_reducible refine Kd.C_drewN ?_ _) | (with_reducible refine Kd.C_drew ?_))); (case side2 => exact HC1.out); rintro e w' ⟨rfl, ⟨nd, rfl⟩⟩))
       go_meet
       case rel => exact ⟨_, (true), u0, H', ⟨u1⟩, ⟨uK BK800.out⟩, ⟨uB⟩⟩
     ·replace c12 := Bool.eq_false_iff.mpr c12
      subst c12
      have H1 : (quinarialaw02_ChannelCheaper.j0 k l1 l2 true a0_0 a0_1 l0_2 l0_3) = some r := by rw [if_neg (show ¬ (false = true) by decide)] at H; exact H
      clear H
      have H := H1
      clear H1
      have H' := Aside0.mk H
      clear H
      obtain ⟨hcz26_0, hcz26_1, hcz26_2, hcz26_3⟩ := cz4 BK800.out
      obtain ⟨hfz26_0, hfz26_1, hfz26_2, hfz26_3⟩ := fz4 BK800.out
      go_wp2_with (first | ((with_reducible refine gate_callee (f := 13) rfl ?_); refine goesL_ (some 14) rfl rfl Tryz.func13 (by kernel_rfl) rfl #[.agg #[.int .i64 a0_0, .int .i64 a0_1, .slice A0_2 l0_2.length c0_2, .slice A0_3 l0_3.length c0_3], .slice A1 l1.length c1] rfl uM ?_; (with_reducible refine (quinarialaw02_slim.calls a0_0 a0_1 _ _ l0_2 _ _ l0_3 _ _ l1 true _ ?side1 ?side2 ?side3 ?side4 ?side5 ?side6 A6.out).mono ?_); (case side1 => repeat (first | exact (Kd.C_below HR0_2.out HB.out) | (with_reducible refine Kd.C_alloc ?_ _) | (with_reducible refine Kd.C_drewN ?_ _) | (with_reducible refine Kd.C_drew ?_))); (case side2 => exact HC0_2.out); (case side3 => repeat (first | exact (Kd.C_below HR0_3.out HB.out) | (with_reducible refine Kd.C_alloc ?_ _) | (with_reducible refine Kd.C_drewN ?_ _) | (with_reducible refine Kd.C_drew ?_))); (case side4 => exact HC0_3.out); (case side5 => repeat (first | exact (Kd.C_below HR1.out HB.out) | (with_reducible refine Kd.C_alloc ?_ _) | (with_reducible refine Kd.C_drewN ?_ _) | (with_reducible refine Kd.C_drew ?_))); (case side6 => exact HC1.out); rintro e w27 ⟨rfl, hb⟩; refine ⟨_, rfl, ?_⟩; replace BK800 := Aside0.mk (blk_below (uK BK800.out) hb); replace HB := Aside0.mk (below_step uB hb); (try clear hb); (try clear hb2); (try clear hk); (try clear hi); obtain ⟨hcz28_0, hcz28_1, hcz28_2, hcz28_3⟩ := cz4 BK800.out; obtain ⟨hfz28_0, hfz28_1, hfz28_2, hfz28_3⟩ := fz4 BK800.out) | (go_at_call 17; (with_reducible refine (quinariaref02_Siphon.calls k a0_0 a0_1 _ _ l0_2 _ _ l0_3 false _ ?side1 ?side2 ?side3 ?side4 A11.out).mono ?_); (case side1 => repeat (first | exact (Kd.C_below HR0_2.out HB.out) | (with_reducible refine Kd.C_alloc ?_ _) | (with_reducible refine Kd.C_drewN ?_ _) | (with_reducible refine Kd.C_drew ?_))); (case side2 => exact HC0_2.out); (case side3 => repeat (first | exact (Kd.C_below HR0_3.out HB.out) | (with_reducible refine Kd.C_alloc ?_ _) | (with_reducible refine Kd.C_drewN ?_ _) | (with_reducible refine Kd.C_drew ?_))); (case side4 => exact HC0_3.out); rintro e w29 ⟨rfl, hb⟩; replace BK800 := Aside0.mk (blk_below (uK BK800.out) hb); replace HB := Aside0.mk (below_step uB hb); (try clear hb); (try clear hb2); (try clear hk); (try clear hi)))
      go_meet
      case rel => exact ⟨_, (true), u0, H', ⟨u1⟩, ⟨uK BK800.out⟩, ⟨uB⟩⟩
   ·replace c7 := Bool.eq_false_iff.mpr c7
    subst c7
    have H1 : (quinarialaw02_ChannelCheaper.j0 k l1 l2 true a0_0 a0_1 l0_2 l0_3) = some r := by rw [if_neg (show ¬ (false = true) by decide)] at H; exact H
    clear H
    have H := H1
    clear H1
    have H' := Aside0.mk H
    clear H
    obtain ⟨hcz30_0, hcz30_1, hcz30_2, hcz30_3⟩ := cz4 BK800.out
    obtain ⟨hfz30_0, hfz30_1, hfz30_2, hfz30_3⟩ := fz4 BK800.out
    go_wp2_with (first | ((with_reducible refine gate_callee (f := 13) rfl ?_); refine goesL_ (some 14) rfl rfl Tryz.func13 (by kernel_rfl) rfl #[.agg #[.int .i64 a0_0, .int .i64 a0_1, .slice A0_2 l0_2.length c0_2, .slice A0_3 l0_3.length c0_3], .slice A1 l1.length c1] rfl uM ?_; (with_reducible refine (quinarialaw02_slim.calls a0_0 a0_1 _ _ l0_2 _ _ l0_3 _ _ l1 false _ ?side1 ?side2 ?side3 ?side4 ?side5 ?side6 A6.out).mono ?_); (case side1 => repeat (first | exact (Kd.C_below HR0_2.out HB.out) | (with_reducible refine Kd.C_alloc ?_ _) | (with_reducible refine Kd.C_drewN ?_ _) | (with_reducible refine Kd.C_drew ?_))); (case side2 => exact HC0_2.out); (case side3 => repeat (first | exact (Kd.C_below HR0_3.out HB.out) | (with_reducible refine Kd.C_alloc ?_ _) | (with_reducible refine Kd.C_drewN ?_ _) | (with_reducible refine Kd.C_drew ?_))); (case side4 => exact HC0_3.out); (case side5 => repeat (first | exact (Kd.C_below HR1.out HB.out) | (with_reducible refine Kd.C_alloc ?_ _) | (with_reducible refine Kd.C_drewN ?_ _) | (with_reducible refine Kd.C_drew ?_))); (case side6 => exact HC1.out); rintro e w31 ⟨rfl, hb⟩; refine ⟨_, rfl, ?_⟩; replace BK800 := Aside0.mk (blk_below (uK BK800.out) hb); replace HB := Aside0.mk (below_step uB hb); (try clear hb); (try clear hb2); (try clear hk); (try clear hi)))
    go_meet
    case rel => exact ⟨_, (true), u0, H', ⟨u1⟩, ⟨uK BK800.out⟩, ⟨uB⟩⟩
 case rest =>
  as_aux_lemma =>
   clear HC4; try clear c1; try clear c2; try clear p2; try clear c7; try clear c8; try clear c8b0; try clear c8b1; try clear c12; try clear c13; try clear c14; try clear hcz16_0; try clear hcz16_1; try clear hcz16_2; try clear hcz16_3; try clear hcz18_0; try clear hcz18_1; try clear hcz18_2; try clear hcz18_3; try clear hcz20_0; try clear hcz20_1; try clear hcz20_2; try clear hcz20_3; try clear hcz22_0; try clear hcz22_1; try clear hcz22_2; try clear hcz22_3; try clear hcz24_0; try clear hcz24_1; try clear hcz24_2; try clear hcz24_3; try clear hcz26_0; try clear hcz26_1; try clear hcz26_2; try clear hcz26_3; try clear hcz28_0; try clear hcz28_1; try clear hcz28_2; try clear hcz28_3; try clear hcz30_0; try clear hcz30_1; try clear hcz30_2; try clear hcz30_3; try clear hcz9_0; try clear hcz9_1; try clear hcz9_2; try clear hcz9_3; try clear hfz16_0; try clear hfz16_1; try clear hfz16_2; try clear hfz16_3; try clear hfz18_0; try clear hfz18_1; try clear hfz18_2; try clear hfz18_3; try clear hfz20_0; try clear hfz20_1; try clear hfz20_2; try clear hfz20_3; try clear hfz22_0; try clear hfz22_1; try clear hfz22_2; try clear hfz22_3; try clear hfz24_0; try clear hfz24_1; try clear hfz24_2; try clear hfz24_3; try clear hfz26_0; try clear hfz26_1; try clear hfz26_2; try clear hfz26_3; try clear hfz28_0; try clear hfz28_1; try clear hfz28_2; try clear hfz28_3; try clear hfz30_0; try clear hfz30_1; try clear hfz30_2; try clear hfz30_3; try clear hfz9_0; try clear hfz9_1; try clear hfz9_2; try clear hfz9_3
   obtain ⟨kq, x37_3, rfl, HA, HJ3, BK800, HB⟩ := hcut
   cases kq with
   | zero => exact absurd HA.out (by simp [quinarialaw02_ChannelCheaper.j0])
   | succ kj3 =>
    have H := HA.out
    clear HA
    simp only [quinarialaw02_ChannelCheaper.j0] at H
    by_cases c32 : x37_3 = true
    ·subst c32
     have H1 : ((quinarialaw02_known.f kj3).bind fun t805 => (some t805)) = some r := by rw [if_pos rfl] at H; exact H
     clear H
     have H := H1
     clear H1
     replace H := Option.bind_eq_some_iff.mp H
     obtain ⟨t805, A330, H⟩ := H
     replace H : (some t805) = some r := H
     have A33 := Aside0.mk A330
     clear A330
     obtain rfl := Option.some.inj H
     go_wp2_with (first | ((with_reducible refine gate_callee (f := 14) rfl ?_); refine goesL_ (some 38) rfl rfl Tryz.func14 (by kernel_rfl) rfl #[] rfl uM ?_; (with_reducible refine (quinarialaw02_known.calls kj3  t805 _ ?sideT A33.out).mono ?_); (case sideT => exact HT.out.below uB); rintro e w34 ⟨rfl, hb⟩; refine ⟨_, rfl, ?_⟩; replace BK800 := Aside0.mk (blk_below (uK BK800.out) hb); replace HB := Aside0.mk (below_step uB hb); (try clear hb); (try clear hb2); (try clear hk); (try clear hi)))
     go_ret
     exact ⟨uE, uB⟩
    ·as_aux_lemma =>
      replace c32 := Bool.eq_false_iff.mpr c32
      subst c32
      have H1 : ((channel_Pipes.f a0_0 a0_1 l0_2 l0_3 l1).bind fun bt806 => ((quinariaref02_Suffices.f kj3 a0_0 a0_1 l0_2 l0_3 l1 l2).bind fun t811 => (if bt806.2.2 = 0 then ((quinariaref02_Chosen.f kj3 a0_0 a0_1 l0_2 l0_3 l1 bt806.1).bind fun t813 => (if t813 = true then ((quinariaref02_Suffices.f kj3 a0_0 a0_1 l0_2 l0_3 l1 bt806.1).bind fun t814 => (if t814 = true then ((quinariaref02_Price.f kj3 a0_0 a0_1 l0_2 l0_3 l1 bt806.1).bind fun t815 => (quinarialaw02_ChannelCheaper.j1 kj3 l1 l2 bt806.1 bt806.2.1 t811 (bt806.2.1 != t815) a0_0 a0_1 l0_2 l0_3)) else (quinarialaw02_ChannelCheaper.j1 kj3 l1 l2 bt806.1 bt806.2.1 t811 true a0_0 a0_1 l0_2 l0_3))) else (quinarialaw02_ChannelCheaper.j1 kj3 l1 l2 bt806.1 bt806.2.1 t811 true a0_0 a0_1 l0_2 l0_3))) else (if bt806.2.2 = 5 then (if t811 = true then (some false) else ((quinarialaw02_known.f kj3).bind fun t812 => (some t812))) else (some false))))) = some r := by rw [if_neg (show ¬ (false = true) by decide)] at H; exact H
      clear H
      have H := H1
      clear H1
      replace H := Option.bind_eq_some_iff.mp H
      obtain ⟨⟨t806, t809, t810⟩, A350, H⟩ := H
      replace H : ((quinariaref02_Suffices.f kj3 a0_0 a0_1 l0_2 l0_3 l1 l2).bind fun t811 => (if t810 = 0 then ((quinariaref02_Chosen.f kj3 a0_0 a0_1 l0_2 l0_3 l1 t806).bind fun t813 => (if t813 = true then ((quinariaref02_Suffices.f kj3 a0_0 a0_1 l0_2 l0_3 l1 t806).bind fun t814 => (if t814 = true then ((quinariaref02_Price.f kj3 a0_0 a0_1 l0_2 l0_3 l1 t806).bind fun t815 => (quinarialaw02_ChannelCheaper.j1 kj3 l1 l2 t806 t809 t811 (t809 != t815) a0_0 a0_1 l0_2 l0_3)) else (quinarialaw02_ChannelCheaper.j1 kj3 l1 l2 t806 t809 t811 true a0_0 a0_1 l0_2 l0_3))) else (quinarialaw02_ChannelCheaper.j1 kj3 l1 l2 t806 t809 t811 true a0_0 a0_1 l0_2 l0_3))) else (if t810 = 5 then (if t811 = true then (some false) else ((quinarialaw02_known.f kj3).bind fun t812 => (some t812))) else (some false)))) = some r := H
      have A35 := Aside0.mk A350
      clear A350
      replace H := Option.bind_eq_some_iff.mp H
      obtain ⟨t811, A360, H⟩ := H
      replace H : (if t810 = 0 then ((quinariaref02_Chosen.f kj3 a0_0 a0_1 l0_2 l0_3 l1 t806).bind fun t813 => (if t813 = true then ((quinariaref02_Suffices.f kj3 a0_0 a0_1 l0_2 l0_3 l1 t806).bind fun t814 => (if t814 = true then ((quinariaref02_Price.f kj3 a0_0 a0_1 l0_2 l0_3 l1 t806).bind fun t815 => (quinarialaw02_ChannelCheaper.j1 kj3 l1 l2 t806 t809 t811 (t809 != t815) a0_0 a0_1 l0_2 l0_3)) else (quinarialaw02_ChannelCheaper.j1 kj3 l1 l2 t806 t809 t811 true a0_0 a0_1 l0_2 l0_3))) else (quinarialaw02_ChannelCheaper.j1 kj3 l1 l2 t806 t809 t811 true a0_0 a0_1 l0_2 l0_3))) else (if t810 = 5 then (if t811 = true then (some false) else ((quinarialaw02_known.f kj3).bind fun t812 => (some t812))) else (some false))) = some r := H
      have A36 := Aside0.mk A360
      clear A360
      by_cases c37 : t810 = 0
      ·as_aux_lemma =>
        rw [if_pos c37] at H
        have c37b0 : (t810 == 0) = true := beq_iff_eq.mpr c37
        have c37b1 : (t810 != 0) = false := bne_eq_false_iff_eq.mpr c37
        clear c37
        have HC38 := Aside0.mk H
        clear H
        obtain ⟨hcz39_0, hcz39_1, hcz39_2, hcz39_3⟩ := cz4 BK800.out
        obtain ⟨hfz39_0, hfz39_1, hfz39_2, hfz39_3⟩ := fz4 BK800.out
        go_upto_region 7 with (first | ((with_reducible refine gate_callee (f := 28) rfl ?_); refine goesL_ (some 42) rfl rfl Tryz.func28 (by kernel_rfl) rfl #[.agg #[.int .i64 a0_0, .int .i64 a0_1, .slice A0_2 l0_2.length c0_2, .slice A0_3 l0_3.length c0_3], .slice A1 l1.length c1] rfl uM ?_; (with_reducible refine (channel_Pipes.calls a0_0 a0_1 _ _ l0_2 _ _ l0_3 _ _ l1 t806 t809 t810 _ ?side1 ?side2 ?side3 ?side4 ?side5 ?side6 A35.out).mono ?_); (case side1 => repeat (first | exact (Kd.C_below HR0_2.out HB.out) | (with_reducible refine Kd.C_alloc ?_ _) | (with_reducible refine Kd.C_drewN ?_ _) | (with_reducible refine Kd.C_drew ?_))); (case side2 => exact HC0_2.out); (case side3 => repeat (first | exact (Kd.C_below HR0_3.out HB.out) | (with_reducible refine Kd.C_alloc ?_ _) | (with_reducible refine Kd.C_drewN ?_ _) | (with_reducible refine Kd.C_drew ?_))); (case side4 => exact HC0_3.out); (case side5 => repeat (first | exact (Kd.C_below HR1.out HB.out) | (with_reducible refine Kd.C_alloc ?_ _) | (with_reducible refine Kd.C_drewN ?_ _) | (with_reducible refine Kd.C_drew ?_))); (case side6 => exact HC1.out); rintro e w40 ⟨v807, rfl, ho0, hb⟩; refine ⟨_, rfl, ?_⟩; have HO808 := Aside0.mk (Kd.R_lower ho0 (below_size uB)); replace BK800 := Aside0.mk (blk_below (uK BK800.out) hb); replace HB := Aside0.mk (below_step uB hb); (try clear hb); (try clear hb2); (try clear hk); (try clear hi); (try clear ho0); obtain ⟨hcz41_0, hcz41_1, hcz41_2, hcz41_3⟩ := cz4 BK800.out; obtain ⟨hfz41_0, hfz41_1, hfz41_2, hfz41_3⟩ := fz4 BK800.out) | ((with_reducible refine gate_callee (f := 31) rfl ?_); refine goesL_ (some 49) rfl rfl Tryz.func31 (by kernel_rfl) rfl #[.agg #[.int .i64 a0_0, .int .i64 a0_1, .slice A0_2 l0_2.length c0_2, .slice A0_3 l0_3.length c0_3], .slice A1 l1.length c1, .slice A2 l2.length c2] rfl uM ?_; (with_reducible refine (quinariaref02_Suffices.calls kj3 a0_0 a0_1 _ _ l0_2 _ _ l0_3 _ _ l1 _ _ l2 t811 _ ?side1 ?side2 ?side3 ?side4 ?side5 ?side6 ?side7 ?side8 A36.out).mono ?_); (case side1 => repeat (first | exact (Kd.C_below HR0_2.out HB.out) | (with_reducible refine Kd.C_alloc ?_ _) | (with_reducible refine Kd.C_drewN ?_ _) | (with_reducible refine Kd.C_drew ?_))); (case side2 => exact HC0_2.out); (case side3 => repeat (first | exact (Kd.C_below HR0_3.out HB.out) | (with_reducible refine Kd.C_alloc ?_ _) | (with_reducible refine Kd.C_drewN ?_ _) | (with_reducible refine Kd.C_drew ?_))); (case side4 => exact HC0_3.out); (case side5 => repeat (first | exact (Kd.C_below HR1.out HB.out) | (with_reducible refine Kd.C_alloc ?_ _) | (with_reducible refine Kd.C_drewN ?_ _) | (with_reducible refine Kd.C_drew ?_))); (case side6 => exact HC1.out); (case side7 => repeat (first | exact (Kd.C_below HR2.out HB.out) | (with_reducible refine Kd.C_alloc ?_ _) | (with_reducible refine Kd.C_drewN ?_ _) | (with_reducible refine Kd.C_drew ?_))); (case side8 => exact HC2.out); rintro e w42 ⟨rfl, hb⟩; refine ⟨_, rfl, ?_⟩; replace HO808 := Aside0.mk (Kd.R_below (uR HO808.out) hb); replace BK800 := Aside0.mk (blk_below (uK BK800.out) hb); replace HB := Aside0.mk (below_step uB hb); (try clear hb); (try clear hb2); (try clear hk); (try clear hi)))
        (try simp only [Act.put, List.setIfInBounds_toArray, List.set_cons_zero, List.set_cons_succ])
        go_cut [80] (fun v80 wc => ∃ (kq : Nat) (x80_37 : Bool), v80 = .bool x80_37 ∧ Aside0 (quinarialaw02_ChannelCheaper.j1 kq l1 l2 t806 t809 t811 x80_37 a0_0 a0_1 l0_2 l0_3 = some r) ∧ Aside0 (kq ≤ kj3) ∧ Aside0 (Kd.R (Kd.int .i64) 3 wc w.heap.size (fun _ => True) v807 t806) ∧ Aside0 (wc.heap[gb800]? = some (.cells #[.int .i64 a0_0, .int .i64 a0_1, (.slice A0_2 l0_2.length c0_2), (.slice A0_3 l0_3.length c0_3)] 27 (0, 0))) ∧ Aside0 (Below w.heap.size w wc))
        case first =>
         as_aux_lemma =>
          have H := HC38.out
          clear HC38
          replace H := Option.bind_eq_some_iff.mp H
          obtain ⟨t813, A430, H⟩ := H
          replace H : (if t813 = true then ((quinariaref02_Suffices.f kj3 a0_0 a0_1 l0_2 l0_3 l1 t806).bind fun t814 => (if t814 = true then ((quinariaref02_Price.f kj3 a0_0 a0_1 l0_2 l0_3 l1 t806).bind fun t815 => (quinarialaw02_ChannelCheaper.j1 kj3 l1 l2 t806 t809 t811 (t809 != t815) a0_0 a0_1 l0_2 l0_3)) else (quinarialaw02_ChannelCheaper.j1 kj3 l1 l2 t806 t809 t811 true a0_0 a0_1 l0_2 l0_3))) else (quinarialaw02_ChannelCheaper.j1 kj3 l1 l2 t806 t809 t811 true a0_0 a0_1 l0_2 l0_3)) = some r := H
          have A43 := Aside0.mk A430
          clear A430
          by_cases c44 : t813 = true
          ·subst c44
           have H1 : ((quinariaref02_Suffices.f kj3 a0_0 a0_1 l0_2 l0_3 l1 t806).bind fun t814 => (if t814 = true then ((quinariaref02_Price.f kj3 a0_0 a0_1 l0_2 l0_3 l1 t806).bind fun t815 => (quinarialaw02_ChannelCheaper.j1 kj3 l1 l2 t806 t809 t811 (t809 != t815) a0_0 a0_1 l0_2 l0_3)) else (quinarialaw02_ChannelCheaper.j1 kj3 l1 l2 t806 t809 t811 true a0_0 a0_1 l0_2 l0_3))) = some r := by rw [if_pos rfl] at H; exact H
           clear H
           have H := H1
           clear H1
           replace H := Option.bind_eq_some_iff.mp H
           obtain ⟨t814, A450, H⟩ := H
           replace H : (if t814 = true then ((quinariaref02_Price.f kj3 a0_0 a0_1 l0_2 l0_3 l1 t806).bind fun t815 => (quinarialaw02_ChannelCheaper.j1 kj3 l1 l2 t806 t809 t811 (t809 != t815) a0_0 a0_1 l0_2 l0_3)) else (quinarialaw02_ChannelCheaper.j1 kj3 l1 l2 t806 t809 t811 true a0_0 a0_1 l0_2 l0_3)) = some r := H
           have A45 := Aside0.mk A450
           clear A450
           by_cases c46 : t814 = true
           ·subst c46
            have H1 : ((quinariaref02_Price.f kj3 a0_0 a0_1 l0_2 l0_3 l1 t806).bind fun t815 => (quinarialaw02_ChannelCheaper.j1 kj3 l1 l2 t806 t809 t811 (t809 != t815) a0_0 a0_1 l0_2 l0_3)) = some r := by rw [if_pos rfl] at H; exact H
            clear H
            have H := H1
            clear H1
            replace H := Option.bind_eq_some_iff.mp H
            obtain ⟨t815, A470, H⟩ := H
            replace H : (quinarialaw02_ChannelCheaper.j1 kj3 l1 l2 t806 t809 t811 (t809 != t815) a0_0 a0_1 l0_2 l0_3) = some r := H
            have A47 := Aside0.mk A470
            clear A470
            have H' := Aside0.mk H
            clear H
            obtain ⟨hcz48_0, hcz48_1, hcz48_2, hcz48_3⟩ := cz4 BK800.out
            obtain ⟨hfz48_0, hfz48_1, hfz48_2, hfz48_3⟩ := fz4 BK800.out
            obtain ⟨Ao49, co49, eo49⟩ := Kd.R_slice HO808.out
            subst eo49
            go_wp2_with (first | ((with_reducible refine gate_callee (f := 25) rfl ?_); refine goesL_ (some 64) rfl rfl Tryz.func25 (by kernel_rfl) rfl #[.agg #[.int .i64 a0_0, .int .i64 a0_1, .slice A0_2 l0_2.length c0_2, .slice A0_3 l0_3.length c0_3], .slice A1 l1.length c1, .slice Ao49 t806.length co49] rfl uM ?_; (with_reducible refine (quinariaref02_Chosen.calls kj3 a0_0 a0_1 _ _ l0_2 _ _ l0_3 _ _ l1 _ _ t806 true _ ?side1 ?side2 ?side3 ?side4 ?side5 ?side6 ?side7 ?side8 A43.out).mono ?_); (case side1 => repeat (first | exact (Kd.C_below HR0_2.out HB.out) | (with_reducible refine Kd.C_alloc ?_ _) | (with_reducible refine Kd.C_drewN ?_ _) | (with_reducible refine Kd.C_drew ?_))); (case side2 => exact HC0_2.out); (case side3 => repeat (first | exact (Kd.C_below HR0_3.out HB.out) | (with_reducible refine Kd.C_alloc ?_ _) | (with_reducible refine Kd.C_drewN ?_ _) | (with_reducible refine Kd.C_drew ?_))); (case side4 => exact HC0_3.out); (case side5 => repeat (first | exact (Kd.C_below HR1.out HB.out) | (with_reducible refine Kd.C_alloc ?_ _) | (with_reducible refine Kd.C_drewN ?_ _) | (with_reducible refine Kd.C_drew ?_))); (case side6 => exact HC1.out); (case side7 => repeat (first | exact (Kd.R_reads' HO808.out).2.2 | (with_reducible refine Kd.C_alloc ?_ _) | (with_reducible refine Kd.C_drewN ?_ _) | (with_reducible refine Kd.C_drew ?_))); (case side8 => exact (Kd.R_reads' HO808.out).2.1); rintro e w50 ⟨rfl, hb⟩; refine ⟨_, rfl, ?_⟩; replace HO808 := Aside0.mk (Kd.R_below (uR HO808.out) hb); replace BK800 := Aside0.mk (blk_below (uK BK800.out) hb); replace HB := Aside0.mk (below_step uB hb); (try clear hb); (try clear hb2); (try clear hk); (try clear hi); obtain ⟨hcz51_0, hcz51_1, hcz51_2, hcz51_3⟩ := cz4 BK800.out; obtain ⟨hfz51_0, hfz51_1, hfz51_2, hfz51_3⟩ := fz4 BK800.out) | (go_at_call 31; (with_reducible refine (quinariaref02_Suffices.calls kj3 a0_0 a0_1 _ _ l0_2 _ _ l0_3 _ _ l1 _ _ t806 true _ ?side1 ?side2 ?side3 ?side4 ?side5 ?side6 ?side7 ?side8 A45.out).mono ?_); (case side1 => repeat (first | exact (Kd.C_below HR0_2.out HB.out) | (with_reducible refine Kd.C_alloc ?_ _) | (with_reducible refine Kd.C_drewN ?_ _) | (with_reducible refine Kd.C_drew ?_))); (case side2 => exact HC0_2.out); (case side3 => repeat (first | exact (Kd.C_below HR0_3.out HB.out) | (with_reducible refine Kd.C_alloc ?_ _) | (with_reducible refine Kd.C_drewN ?_ _) | (with_reducible refine Kd.C_drew ?_))); (case side4 => exact HC0_3.out); (case side5 => repeat (first | exact (Kd.C_below HR1.out HB.out) | (with_reducible refine Kd.C_alloc ?_ _) | (with_reducible refine Kd.C_drewN ?_ _) | (with_reducible refine Kd.C_drew ?_))); (case side6 => exact HC1.out); (case side7 => repeat (first | exact (Kd.R_reads' HO808.out).2.2 | (with_reducible refine Kd.C_alloc ?_ _) | (with_reducible refine Kd.C_drewN ?_ _) | (with_reducible refine Kd.C_drew ?_))); (case side8 => exact (Kd.R_reads' HO808.out).2.1); rintro e w52 ⟨rfl, hb⟩; replace HO808 := Aside0.mk (Kd.R_below (uR HO808.out) hb); replace BK800 := Aside0.mk (blk_below (uK BK800.out) hb); replace HB := Aside0.mk (below_step uB hb); (try clear hb); (try clear hb2); (try clear hk); (try clear hi); obtain ⟨hcz53_0, hcz53_1, hcz53_2, hcz53_3⟩ := cz4 BK800.out; obtain ⟨hfz53_0, hfz53_1, hfz53_2, hfz53_3⟩ := fz4 BK800.out) | (go_at_call 30; (with_reducible refine (quinariaref02_Price.calls kj3 a0_0 a0_1 _ _ l0_2 _ _ l0_3 _ _ l1 _ _ t806 t815 _ ?side1 ?side2 ?side3 ?side4 ?side5 ?side6 ?side7 ?side8 A47.out).mono ?_); (case side1 => repeat (first | exact (Kd.C_below HR0_2.out HB.out) | (with_reducible refine Kd.C_alloc ?_ _) | (with_reducible refine Kd.C_drewN ?_ _) | (with_reducible refine Kd.C_drew ?_))); (case side2 => exact HC0_2.out); (case side3 => repeat (first | exact (Kd.C_below HR0_3.out HB.out) | (with_reducible refine Kd.C_alloc ?_ _) | (with_reducible refine Kd.C_drewN ?_ _) | (with_reducible refine Kd.C_drew ?_))); (case side4 => exact HC0_3.out); (case side5 => repeat (first | exact (Kd.C_below HR1.out HB.out) | (with_reducible refine Kd.C_alloc ?_ _) | (with_reducible refine Kd.C_drewN ?_ _) | (with_reducible refine Kd.C_drew ?_))); (case side6 => exact HC1.out); (case side7 => repeat (first | exact (Kd.R_reads' HO808.out).2.2 | (with_reducible refine Kd.C_alloc ?_ _) | (with_reducible refine Kd.C_drewN ?_ _) | (with_reducible refine Kd.C_drew ?_))); (case side8 => exact (Kd.R_reads' HO808.out).2.1); rintro e w54 ⟨rfl, hb⟩; replace HO808 := Aside0.mk (Kd.R_below (uR HO808.out) hb); replace BK800 := Aside0.mk (blk_below (uK BK800.out) hb); replace HB := Aside0.mk (below_step uB hb); (try clear hb); (try clear hb2); (try clear hk); (try clear hi)))
            go_meet
            case rel => exact ⟨_, ((t809 != t815)), u0, H', ⟨by have := HJ3.out; first | omega | exact Nat.le_refl _⟩, ⟨uR HO808.out⟩, ⟨uK BK800.out⟩, ⟨uB⟩⟩
           ·replace c46 := Bool.eq_false_iff.mpr c46
            subst c46
            have H1 : (quinarialaw02_ChannelCheaper.j1 kj3 l1 l2 t806 t809 t811 true a0_0 a0_1 l0_2 l0_3) = some r := by rw [if_neg (show ¬ (false = true) by decide)] at H; exact H
            clear H
            have H := H1
            clear H1
            have H' := Aside0.mk H
            clear H
            obtain ⟨hcz55_0, hcz55_1, hcz55_2, hcz55_3⟩ := cz4 BK800.out
            obtain ⟨hfz55_0, hfz55_1, hfz55_2, hfz55_3⟩ := fz4 BK800.out
            obtain ⟨Ao56, co56, eo56⟩ := Kd.R_slice HO808.out
            subst eo56
            go_wp2_with (first | ((with_reducible refine gate_callee (f := 25) rfl ?_); refine goesL_ (some 64) rfl rfl Tryz.func25 (by kernel_rfl) rfl #[.agg #[.int .i64 a0_0, .int .i64 a0_1, .slice A0_2 l0_2.length c0_2, .slice A0_3 l0_3.length c0_3], .slice A1 l1.length c1, .slice Ao56 t806.length co56] rfl uM ?_; (with_reducible refine (quinariaref02_Chosen.calls kj3 a0_0 a0_1 _ _ l0_2 _ _ l0_3 _ _ l1 _ _ t806 true _ ?side1 ?side2 ?side3 ?side4 ?side5 ?side6 ?side7 ?side8 A43.out).mono ?_); (case side1 => repeat (first | exact (Kd.C_below HR0_2.out HB.out) | (with_reducible refine Kd.C_alloc ?_ _) | (with_reducible refine Kd.C_drewN ?_ _) | (with_reducible refine Kd.C_drew ?_))); (case side2 => exact HC0_2.out); (case side3 => repeat (first | exact (Kd.C_below HR0_3.out HB.out) | (with_reducible refine Kd.C_alloc ?_ _) | (with_reducible refine Kd.C_drewN ?_ _) | (with_reducible refine Kd.C_drew ?_))); (case side4 => exact HC0_3.out); (case side5 => repeat (first | exact (Kd.C_below HR1.out HB.out) | (with_reducible refine Kd.C_alloc ?_ _) | (with_reducible refine Kd.C_drewN ?_ _) | (with_reducible refine Kd.C_drew ?_))); (case side6 => exact HC1.out); (case side7 => repeat (first | exact (Kd.R_reads' HO808.out).2.2 | (with_reducible refine Kd.C_alloc ?_ _) | (with_reducible refine Kd.C_drewN ?_ _) | (with_reducible refine Kd.C_drew ?_))); (case side8 => exact (Kd.R_reads' HO808.out).2.1); rintro e w57 ⟨rfl, hb⟩; refine ⟨_, rfl, ?_⟩; replace HO808 := Aside0.mk (Kd.R_below (uR HO808.out) hb); replace BK800 := Aside0.mk (blk_below (uK BK800.out) hb); replace HB := Aside0.mk (below_step uB hb); (try clear hb); (try clear hb2); (try clear hk); (try clear hi); obtain ⟨hcz58_0, hcz58_1, hcz58_2, hcz58_3⟩ := cz4 BK800.out; obtain ⟨hfz58_0, hfz58_1, hfz58_2, hfz58_3⟩ := fz4 BK800.out) | (go_at_call 31; (with_reducible refine (quinariaref02_Suffices.calls kj3 a0_0 a0_1 _ _ l0_2 _ _ l0_3 _ _ l1 _ _ t806 false _ ?side1 ?side2 ?side3 ?side4 ?side5 ?side6 ?side7 ?side8 A45.out).mono ?_); (case side1 => repeat (first | exact (Kd.C_below HR0_2.out HB.out) | (with_reducible refine Kd.C_alloc ?_ _) | (with_reducible refine Kd.C_drewN ?_ _) | (with_reducible refine Kd.C_drew ?_))); (case side2 => exact HC0_2.out); (case side3 => repeat (first | exact (Kd.C_below HR0_3.out HB.out) | (with_reducible refine Kd.C_alloc ?_ _) | (with_reducible refine Kd.C_drewN ?_ _) | (with_reducible refine Kd.C_drew ?_))); (case side4 => exact HC0_3.out); (case side5 => repeat (first | exact (Kd.C_below HR1.out HB.out) | (with_reducible refine Kd.C_alloc ?_ _) | (with_reducible refine Kd.C_drewN ?_ _) | (with_reducible refine Kd.C_drew ?_))); (case side6 => exact HC1.out); (case side7 => repeat (first | exact (Kd.R_reads' HO808.out).2.2 | (with_reducible refine Kd.C_alloc ?_ _) | (with_reducible refine Kd.C_drewN ?_ _) | (with_reducible refine Kd.C_drew ?_))); (case side8 => exact (Kd.R_reads' HO808.out).2.1); rintro e w59 ⟨rfl, hb⟩; replace HO808 := Aside0.mk (Kd.R_below (uR HO808.out) hb); replace BK800 := Aside0.mk (blk_below (uK BK800.out) hb); replace HB := Aside0.mk (below_step uB hb); (try clear hb); (try clear hb2); (try clear hk); (try clear hi)))
            go_meet
            case rel => exact ⟨_, (true), u0, H', ⟨by have := HJ3.out; first | omega | exact Nat.le_refl _⟩, ⟨uR HO808.out⟩, ⟨uK BK800.out⟩, ⟨uB⟩⟩
          ·replace c44 := Bool.eq_false_iff.mpr c44
           subst c44
           have H1 : (quinarialaw02_ChannelCheaper.j1 kj3 l1 l2 t806 t809 t811 true a0_0 a0_1 l0_2 l0_3) = some r := by rw [if_neg (show ¬ (false = true) by decide)] at H; exact H
           clear H
           have H := H1
           clear H1
           have H' := Aside0.mk H
           clear H
           obtain ⟨hcz60_0, hcz60_1, hcz60_2, hcz60_3⟩ := cz4 BK800.out
           obtain ⟨hfz60_0, hfz60_1, hfz60_2, hfz60_3⟩ := fz4 BK800.out
           obtain ⟨Ao61, co61, eo61⟩ := Kd.R_slice HO808.out
           subst eo61
           go_wp2_with (first | ((with_reducible refine gate_callee (f := 25) rfl ?_); refine goesL_ (some 64) rfl rfl Tryz.func25 (by kernel_rfl) rfl #[.agg #[.int .i64 a0_0, .int .i64 a0_1, .slice A0_2 l0_2.length c0_2, .slice A0_3 l0_3.length c0_3], .slice A1 l1.length c1, .slice Ao61 t806.length co61] rfl uM ?_; (with_reducible refine (quinariaref02_Chosen.calls kj3 a0_0 a0_1 _ _ l0_2 _ _ l0_3 _ _ l1 _ _ t806 false _ ?side1 ?side2 ?side3 ?side4 ?side5 ?side6 ?side7 ?side8 A43.out).mono ?_); (case side1 => repeat (first | exact (Kd.C_below HR0_2.out HB.out) | (with_reducible refine Kd.C_alloc ?_ _) | (with_reducible refine Kd.C_drewN ?_ _) | (with_reducible refine Kd.C_drew ?_))); (case side2 => exact HC0_2.out); (case side3 => repeat (first | exact (Kd.C_below HR0_3.out HB.out) | (with_reducible refine Kd.C_alloc ?_ _) | (with_reducible refine Kd.C_drewN ?_ _) | (with_reducible refine Kd.C_drew ?_))); (case side4 => exact HC0_3.out); (case side5 => repeat (first | exact (Kd.C_below HR1.out HB.out) | (with_reducible refine Kd.C_alloc ?_ _) | (with_reducible refine Kd.C_drewN ?_ _) | (with_reducible refine Kd.C_drew ?_))); (case side6 => exact HC1.out); (case side7 => repeat (first | exact (Kd.R_reads' HO808.out).2.2 | (with_reducible refine Kd.C_alloc ?_ _) | (with_reducible refine Kd.C_drewN ?_ _) | (with_reducible refine Kd.C_drew ?_))); (case side8 => exact (Kd.R_reads' HO808.out).2.1); rintro e w62 ⟨rfl, hb⟩; refine ⟨_, rfl, ?_⟩; replace HO808 := Aside0.mk (Kd.R_below (uR HO808.out) hb); replace BK800 := Aside0.mk (blk_below (uK BK800.out) hb); replace HB := Aside0.mk (below_step uB hb); (try clear hb); (try clear hb2); (try clear hk); (try clear hi)))
           go_meet
           case rel => exact ⟨_, (true), u0, H', ⟨by have := HJ3.out; first | omega | exact Nat.le_refl _⟩, ⟨uR HO808.out⟩, ⟨uK BK800.out⟩, ⟨uB⟩⟩
        case rest =>
         as_aux_lemma =>
          clear HC38; try clear c1; try clear c2; try clear p2; try clear c3; try clear c4; try clear c7; try clear c8; try clear c8b0; try clear c8b1; try clear c12; try clear c13; try clear c14; try clear c25; try clear c28; try clear c31; try clear c32; try clear c37; try clear c37b0; try clear c37b1; try clear c44; try clear c46; try clear hcz16_0; try clear hcz16_1; try clear hcz16_2; try clear hcz16_3; try clear hcz18_0; try clear hcz18_1; try clear hcz18_2; try clear hcz18_3; try clear hcz20_0; try clear hcz20_1; try clear hcz20_2; try clear hcz20_3; try clear hcz22_0; try clear hcz22_1; try clear hcz22_2; try clear hcz22_3; try clear hcz24_0; try clear hcz24_1; try clear hcz24_2; try clear hcz24_3; try clear hcz26_0; try clear hcz26_1; try clear hcz26_2; try clear hcz26_3; try clear hcz28_0; try clear hcz28_1; try clear hcz28_2; try clear hcz28_3; try clear hcz30_0; try clear hcz30_1; try clear hcz30_2; try clear hcz30_3; try clear hcz39_0; try clear hcz39_1; try clear hcz39_2; try clear hcz39_3; try clear hcz41_0; try clear hcz41_1; try clear hcz41_2; try clear hcz41_3; try clear hcz48_0; try clear hcz48_1; try clear hcz48_2; try clear hcz48_3; try clear hcz51_0; try clear hcz51_1; try clear hcz51_2; try clear hcz51_3; try clear hcz53_0; try clear hcz53_1; try clear hcz53_2; try clear hcz53_3; try clear hcz55_0; try clear hcz55_1; try clear hcz55_2; try clear hcz55_3; try clear hcz58_0; try clear hcz58_1; try clear hcz58_2; try clear hcz58_3; try clear hcz60_0; try clear hcz60_1; try clear hcz60_2; try clear hcz60_3; try clear hcz9_0; try clear hcz9_1; try clear hcz9_2; try clear hcz9_3; try clear hfz16_0; try clear hfz16_1; try clear hfz16_2; try clear hfz16_3; try clear hfz18_0; try clear hfz18_1; try clear hfz18_2; try clear hfz18_3; try clear hfz20_0; try clear hfz20_1; try clear hfz20_2; try clear hfz20_3; try clear hfz22_0; try clear hfz22_1; try clear hfz22_2; try clear hfz22_3; try clear hfz24_0; try clear hfz24_1; try clear hfz24_2; try clear hfz24_3; try clear hfz26_0; try clear hfz26_1; try clear hfz26_2; try clear hfz26_3; try clear hfz28_0; try clear hfz28_1; try clear hfz28_2; try clear hfz28_3; try clear hfz30_0; try clear hfz30_1; try clear hfz30_2; try clear hfz30_3; try clear hfz39_0; try clear hfz39_1; try clear hfz39_2; try clear hfz39_3; try clear hfz41_0; try clear hfz41_1; try clear hfz41_2; try clear hfz41_3; try clear hfz48_0; try clear hfz48_1; try clear hfz48_2; try clear hfz48_3; try clear hfz51_0; try clear hfz51_1; try clear hfz51_2; try clear hfz51_3; try clear hfz53_0; try clear hfz53_1; try clear hfz53_2; try clear hfz53_3; try clear hfz55_0; try clear hfz55_1; try clear hfz55_2; try clear hfz55_3; try clear hfz58_0; try clear hfz58_1; try clear hfz58_2; try clear hfz58_3; try clear hfz60_0; try clear hfz60_1; try clear hfz60_2; try clear hfz60_3; try clear hfz9_0; try clear hfz9_1; try clear hfz9_2; try clear hfz9_3; try clear p2
          obtain ⟨kq, x80_37, rfl, HA, HJ37, HO_7, BK800, HB⟩ := hcut
          cases kq with
          | zero => exact absurd HA.out (by simp [quinarialaw02_ChannelCheaper.j1])
          | succ kj37 =>
           have H := HA.out
           clear HA
           simp only [quinarialaw02_ChannelCheaper.j1] at H
           by_cases c63 : x80_37 = true
           ·subst c63
            have H1 : (some false) = some r := by rw [if_pos rfl] at H; exact H
            clear H
            have H := H1
            clear H1
            obtain rfl := Option.some.inj H
            go_wp2
            go_ret
            exact ⟨uE, uB⟩
           ·replace c63 := Bool.eq_false_iff.mpr c63
            subst c63
            have H1 : ((quinariaref02_Price.f kj37 a0_0 a0_1 l0_2 l0_3 l1 l2).bind fun t816 => (if t811 = true then (if t816 > t809 then ((quinarialaw02_known.f kj37).bind fun t817 => (some t817)) else (if t816 = t809 then ((quinariaref02_Before.f kj37 l2 t806).bind fun t818 => (if t818 = true then (some false) else ((quinarialaw02_known.f kj37).bind fun t819 => (some t819)))) else (some false))) else ((quinarialaw02_known.f kj37).bind fun t820 => (some t820)))) = some r := by rw [if_neg (show ¬ (false = true) by decide)] at H; exact H
            clear H
            have H := H1
            clear H1
            replace H := Option.bind_eq_some_iff.mp H
            obtain ⟨t816, A640, H⟩ := H
            replace H : (if t811 = true then (if t816 > t809 then ((quinarialaw02_known.f kj37).bind fun t817 => (some t817)) else (if t816 = t809 then ((quinariaref02_Before.f kj37 l2 t806).bind fun t818 => (if t818 = true then (some false) else ((quinarialaw02_known.f kj37).bind fun t819 => (some t819)))) else (some false))) else ((quinarialaw02_known.f kj37).bind fun t820 => (some t820))) = some r := H
            have A64 := Aside0.mk A640
            clear A640
            by_cases c65 : t811 = true
            ·subst c65
             have H1 : (if t816 > t809 then ((quinarialaw02_known.f kj37).bind fun t817 => (some t817)) else (if t816 = t809 then ((quinariaref02_Before.f kj37 l2 t806).bind fun t818 => (if t818 = true then (some false) else ((quinarialaw02_known.f kj37).bind fun t819 => (some t819)))) else (some false))) = some r := by rw [if_pos rfl] at H; exact H
             clear H
             have H := H1
             clear H1
             by_cases c66 : t816 > t809
             ·rw [if_pos c66] at H
              replace c66 := decide_eq_true c66
              replace H := Option.bind_eq_some_iff.mp H
              obtain ⟨t817, A670, H⟩ := H
              replace H : (some t817) = some r := H
              have A67 := Aside0.mk A670
              clear A670
              obtain rfl := Option.some.inj H
              obtain ⟨hcz68_0, hcz68_1, hcz68_2, hcz68_3⟩ := cz4 BK800.out
              obtain ⟨hfz68_0, hfz68_1, hfz68_2, hfz68_3⟩ := fz4 BK800.out
              go_wp2_with (first | ((with_reducible refine gate_callee (f := 30) rfl ?_); refine goesL_ (some 84) rfl rfl Tryz.func30 (by kernel_rfl) rfl #[.agg #[.int .i64 a0_0, .int .i64 a0_1, .slice A0_2 l0_2.length c0_2, .slice A0_3 l0_3.length c0_3], .slice A1 l1.length c1, .slice A2 l2.length c2] rfl uM ?_; (with_reducible refine (quinariaref02_Price.calls kj37 a0_0 a0_1 _ _ l0_2 _ _ l0_3 _ _ l1 _ _ l2 t816 _ ?side1 ?side2 ?side3 ?side4 ?side5 ?side6 ?side7 ?side8 A64.out).mono ?_); (case side1 => repeat (first | exact (Kd.C_below HR0_2.out HB.out) | (with_reducible refine Kd.C_alloc ?_ _) | (with_reducible refine Kd.C_drewN ?_ _) | (with_reducible refine Kd.C_drew ?_))); (case side2 => exact HC0_2.out); (case side3 => repeat (first | exact (Kd.C_below HR0_3.out HB.out) | (with_reducible refine Kd.C_alloc ?_ _) | (with_reducible refine Kd.C_drewN ?_ _) | (with_reducible refine Kd.C_drew ?_))); (case side4 => exact HC0_3.out); (case side5 => repeat (first | exact (Kd.C_below HR1.out HB.out) | (with_reducible refine Kd.C_alloc ?_ _) | (with_reducible refine Kd.C_drewN ?_ _) | (with_reducible refine Kd.C_drew ?_))); (case side6 => exact HC1.out); (case side7 => repeat (first | exact (Kd.C_below HR2.out HB.out) | (with_reducible refine Kd.C_alloc ?_ _) | (with_reducible refine Kd.C_drewN ?_ _) | (with_reducible refine Kd.C_drew ?_))); (case side8 => exact HC2.out); rintro e w69 ⟨rfl, hb⟩; refine ⟨_, rfl, ?_⟩; replace HO_7 := Aside0.mk (Kd.R_below (uR HO_7.out) hb); replace BK800 := Aside0.mk (blk_below (uK BK800.out) hb); replace HB := Aside0.mk (below_step uB hb); (try clear hb); (try clear hb2); (try clear hk); (try clear hi)) | (go_at_call 14; (with_reducible refine (quinarialaw02_known.calls kj37  t817 _ ?sideT A67.out).mono ?_); (case sideT => exact HT.out.below uB); rintro e w70 ⟨rfl, hb⟩; replace HO_7 := Aside0.mk (Kd.R_below (uR HO_7.out) hb); replace BK800 := Aside0.mk (blk_below (uK BK800.out) hb); replace HB := Aside0.mk (below_step uB hb); (try clear hb); (try clear hb2); (try clear hk); (try clear hi)))
              go_ret
              exact ⟨uE, uB⟩
             ·rw [if_neg c66] at H
              replace c66 := decide_eq_false c66
              by_cases c71 : t816 = t809
              ·rw [if_pos c71] at H
               have c71b0 : (t816 == t809) = true := beq_iff_eq.mpr c71
               have c71b1 : (t816 != t809) = false := bne_eq_false_iff_eq.mpr c71
               clear c71
               replace H := Option.bind_eq_some_iff.mp H
               obtain ⟨t818, A720, H⟩ := H
               replace H : (if t818 = true then (some false) else ((quinarialaw02_known.f kj37).bind fun t819 => (some t819))) = some r := H
               have A72 := Aside0.mk A720
               clear A720
               by_cases c73 : t818 = true
               ·subst c73
                have H1 : (some false) = some r := by rw [if_pos rfl] at H; exact H
                clear H
                have H := H1
                clear H1
                obtain rfl := Option.some.inj H
                obtain ⟨hcz74_0, hcz74_1, hcz74_2, hcz74_3⟩ := cz4 BK800.out
                obtain ⟨hfz74_0, hfz74_1, hfz74_2, hfz74_3⟩ := fz4 BK800.out
                go_wp2_with (first | ((with_reducible refine gate_callee (f := 30) rfl ?_); refine goesL_ (some 84) rfl rfl Tryz.func30 (by kernel_rfl) rfl #[.agg #[.int .i64 a0_0, .int .i64 a0_1, .slice A0_2 l0_2.length c0_2, .slice A0_3 l0_3.length c0_3], .slice A1 l1.length c1, .slice A2 l2.length c2] rfl uM ?_; (with_reducible refine (quinariaref02_Price.calls kj37 a0_0 a0_1 _ _ l0_2 _ _ l0_3 _ _ l1 _ _ l2 t816 _ ?side1 ?side2 ?side3 ?side4 ?side5 ?side6 ?side7 ?side8 A64.out).mono ?_); (case side1 => repeat (first | exact (Kd.C_below HR0_2.out HB.out) | (with_reducible refine Kd.C_alloc ?_ _) | (with_reducible refine Kd.C_drewN ?_ _) | (with_reducible refine Kd.C_drew ?_))); (case side2 => exact HC0_2.out); (case side3 => repeat (first | exact (Kd.C_below HR0_3.out HB.out) | (with_reducible refine Kd.C_alloc ?_ _) | (with_reducible refine Kd.C_drewN ?_ _) | (with_reducible refine Kd.C_drew ?_))); (case side4 => exact HC0_3.out); (case side5 => repeat (first | exact (Kd.C_below HR1.out HB.out) | (with_reducible refine Kd.C_alloc ?_ _) | (with_reducible refine Kd.C_drewN ?_ _) | (with_reducible refine Kd.C_drew ?_))); (case side6 => exact HC1.out); (case side7 => repeat (first | exact (Kd.C_below HR2.out HB.out) | (with_reducible refine Kd.C_alloc ?_ _) | (with_reducible refine Kd.C_drewN ?_ _) | (with_reducible refine Kd.C_drew ?_))); (case side8 => exact HC2.out); rintro e w75 ⟨rfl, hb⟩; refine ⟨_, rfl, ?_⟩; replace HO_7 := Aside0.mk (Kd.R_below (uR HO_7.out) hb); replace BK800 := Aside0.mk (blk_below (uK BK800.out) hb); replace HB := Aside0.mk (below_step uB hb); (try clear hb); (try clear hb2); (try clear hk); (try clear hi); obtain ⟨Ao76, co76, eo76⟩ := Kd.R_slice HO_7.out; subst eo76) | (go_at_call 32; (with_reducible refine (quinariaref02_Before.calls kj37 _ _ l2 _ _ t806 true _ ?side1 ?side2 ?side3 ?side4 A72.out).mono ?_); (case side1 => repeat (first | exact (Kd.C_below HR2.out HB.out) | (with_reducible refine Kd.C_alloc ?_ _) | (with_reducible refine Kd.C_drewN ?_ _) | (with_reducible refine Kd.C_drew ?_))); (case side2 => exact HC2.out); (case side3 => repeat (first | exact (Kd.R_reads' HO_7.out).2.2 | (with_reducible refine Kd.C_alloc ?_ _) | (with_reducible refine Kd.C_drewN ?_ _) | (with_reducible refine Kd.C_drew ?_))); (case side4 => exact (Kd.R_reads' HO_7.out).2.1); rintro e w' ⟨rfl, ⟨nd, rfl⟩⟩))
                go_ret
                exact ⟨uE, uB⟩
               ·replace c73 := Bool.eq_false_iff.mpr c73
                subst c73
                have H1 : ((quinarialaw02_known.f kj37).bind fun t819 => (some t819)) = some r := by rw [if_neg (show ¬ (false = true) by decide)] at H; exact H
                clear H
                have H := H1
                clear H1
                replace H := Option.bind_eq_some_iff.mp H
                obtain ⟨t819, A770, H⟩ := H
                replace H : (some t819) = some r := H
                have A77 := Aside0.mk A770
                clear A770
                obtain rfl := Option.some.inj H
                obtain ⟨hcz78_0, hcz78_1, hcz78_2, hcz78_3⟩ := cz4 BK800.out
                obtain ⟨hfz78_0, hfz78_1, hfz78_2, hfz78_3⟩ := fz4 BK800.out
                go_wp2_with (first | ((with_reducible refine gate_callee (f := 30) rfl ?_); refine goesL_ (some 84) rfl rfl Tryz.func30 (by kernel_rfl) rfl #[.agg #[.int .i64 a0_0, .int .i64 a0_1, .slice A0_2 l0_2.length c0_2, .slice A0_3 l0_3.length c0_3], .slice A1 l1.length c1, .slice A2 l2.length c2] rfl uM ?_; (with_reducible refine (quinariaref02_Price.calls kj37 a0_0 a0_1 _ _ l0_2 _ _ l0_3 _ _ l1 _ _ l2 t816 _ ?side1 ?side2 ?side3 ?side4 ?side5 ?side6 ?side7 ?side8 A64.out).mono ?_); (case side1 => repeat (first | exact (Kd.C_below HR0_2.out HB.out) | (with_reducible refine Kd.C_alloc ?_ _) | (with_reducible refine Kd.C_drewN ?_ _) | (with_reducible refine Kd.C_drew ?_))); (case side2 => exact HC0_2.out); (case side3 => repeat (first | exact (Kd.C_below HR0_3.out HB.out) | (with_reducible refine Kd.C_alloc ?_ _) | (with_reducible refine Kd.C_drewN ?_ _) | (with_reducible refine Kd.C_drew ?_))); (case side4 => exact HC0_3.out); (case side5 => repeat (first | exact (Kd.C_below HR1.out HB.out) | (with_reducible refine Kd.C_alloc ?_ _) | (with_reducible refine Kd.C_drewN ?_ _) | (with_reducible refine Kd.C_drew ?_))); (case side6 => exact HC1.out); (case side7 => repeat (first | exact (Kd.C_below HR2.out HB.out) | (with_reducible refine Kd.C_alloc ?_ _) | (with_reducible refine Kd.C_drewN ?_ _) | (with_reducible refine Kd.C_drew ?_))); (case side8 => exact HC2.out); rintro e w79 ⟨rfl, hb⟩; refine ⟨_, rfl, ?_⟩; replace HO_7 := Aside0.mk (Kd.R_below (uR HO_7.out) hb); replace BK800 := Aside0.mk (blk_below (uK BK800.out) hb); replace HB := Aside0.mk (below_step uB hb); (try clear hb); (try clear hb2); (try clear hk); (try clear hi); obtain ⟨Ao80, co80, eo80⟩ := Kd.R_slice HO_7.out; subst eo80) | (go_at_call 32; (with_reducible refine (quinariaref02_Before.calls kj37 _ _ l2 _ _ t806 false _ ?side1 ?side2 ?side3 ?side4 A72.out).mono ?_); (case side1 => repeat (first | exact (Kd.C_below HR2.out HB.out) | (with_reducible refine Kd.C_alloc ?_ _) | (with_reducible refine Kd.C_drewN ?_ _) | (with_reducible refine Kd.C_drew ?_))); (case side2 => exact HC2.out); (case side3 => repeat (first | exact (Kd.R_reads' HO_7.out).2.2 | (with_reducible refine Kd.C_alloc ?_ _) | (with_reducible refine Kd.C_drewN ?_ _) | (with_reducible refine Kd.C_drew ?_))); (case side4 => exact (Kd.R_reads' HO_7.out).2.1); rintro e w' ⟨rfl, ⟨nd, rfl⟩⟩) | (go_at_call 14; (with_reducible refine (quinarialaw02_known.calls kj37  t819 _ ?sideT A77.out).mono ?_); (case sideT => exact HT.out.below uB); rintro e w81 ⟨rfl, hb⟩; replace HO_7 := Aside0.mk (Kd.R_below (uR HO_7.out) hb); replace BK800 := Aside0.mk (blk_below (uK BK800.out) hb); replace HB := Aside0.mk (below_step uB hb); (try clear hb); (try clear hb2); (try clear hk); (try clear hi)))
                go_ret
                exact ⟨uE, uB⟩
              ·rw [if_neg c71] at H
               have c71b0 : (t816 == t809) = false := beq_eq_false_iff_ne.mpr c71
               have c71b1 : (t816 != t809) = true := bne_iff_ne.mpr c71
               obtain rfl := Option.some.inj H
               obtain ⟨hcz82_0, hcz82_1, hcz82_2, hcz82_3⟩ := cz4 BK800.out
               obtain ⟨hfz82_0, hfz82_1, hfz82_2, hfz82_3⟩ := fz4 BK800.out
               go_wp2_with (first | ((with_reducible refine gate_callee (f := 30) rfl ?_); refine goesL_ (some 84) rfl rfl Tryz.func30 (by kernel_rfl) rfl #[.agg #[.int .i64 a0_0, .int .i64 a0_1, .slice A0_2 l0_2.length c0_2, .slice A0_3 l0_3.length c0_3], .slice A1 l1.length c1, .slice A2 l2.length c2] rfl uM ?_; (with_reducible refine (quinariaref02_Price.calls kj37 a0_0 a0_1 _ _ l0_2 _ _ l0_3 _ _ l1 _ _ l2 t816 _ ?side1 ?side2 ?side3 ?side4 ?side5 ?side6 ?side7 ?side8 A64.out).mono ?_); (case side1 => repeat (first | exact (Kd.C_below HR0_2.out HB.out) | (with_reducible refine Kd.C_alloc ?_ _) | (with_reducible refine Kd.C_drewN ?_ _) | (with_reducible refine Kd.C_drew ?_))); (case side2 => exact HC0_2.out); (case side3 => repeat (first | exact (Kd.C_below HR0_3.out HB.out) | (with_reducible refine Kd.C_alloc ?_ _) | (with_reducible refine Kd.C_drewN ?_ _) | (with_reducible refine Kd.C_drew ?_))); (case side4 => exact HC0_3.out); (case side5 => repeat (first | exact (Kd.C_below HR1.out HB.out) | (with_reducible refine Kd.C_alloc ?_ _) | (with_reducible refine Kd.C_drewN ?_ _) | (with_reducible refine Kd.C_drew ?_))); (case side6 => exact HC1.out); (case side7 => repeat (first | exact (Kd.C_below HR2.out HB.out) | (with_reducible refine Kd.C_alloc ?_ _) | (with_reducible refine Kd.C_drewN ?_ _) | (with_reducible refine Kd.C_drew ?_))); (case side8 => exact HC2.out); rintro e w83 ⟨rfl, hb⟩; refine ⟨_, rfl, ?_⟩; replace HO_7 := Aside0.mk (Kd.R_below (uR HO_7.out) hb); replace BK800 := Aside0.mk (blk_below (uK BK800.out) hb); replace HB := Aside0.mk (below_step uB hb); (try clear hb); (try clear hb2); (try clear hk); (try clear hi)))
               go_ret
               exact ⟨uE, uB⟩
            ·replace c65 := Bool.eq_false_iff.mpr c65
             subst c65
             have H1 : ((quinarialaw02_known.f kj37).bind fun t820 => (some t820)) = some r := by rw [if_neg (show ¬ (false = true) by decide)] at H; exact H
             clear H
             have H := H1
             clear H1
             replace H := Option.bind_eq_some_iff.mp H
             obtain ⟨t820, A840, H⟩ := H
             replace H : (some t820) = some r := H
             have A84 := Aside0.mk A840
             clear A840
             obtain rfl := Option.some.inj H
             obtain ⟨hcz85_0, hcz85_1, hcz85_2, hcz85_3⟩ := cz4 BK800.out
             obtain ⟨hfz85_0, hfz85_1, hfz85_2, hfz85_3⟩ := fz4 BK800.out
             go_wp2_with (first | ((with_reducible refine gate_callee (f := 30) rfl ?_); refine goesL_ (some 84) rfl rfl Tryz.func30 (by kernel_rfl) rfl #[.agg #[.int .i64 a0_0, .int .i64 a0_1, .slice A0_2 l0_2.length c0_2, .slice A0_3 l0_3.length c0_3], .slice A1 l1.length c1, .slice A2 l2.length c2] rfl uM ?_; (with_reducible refine (quinariaref02_Price.calls kj37 a0_0 a0_1 _ _ l0_2 _ _ l0_3 _ _ l1 _ _ l2 t816 _ ?side1 ?side2 ?side3 ?side4 ?side5 ?side6 ?side7 ?side8 A64.out).mono ?_); (case side1 => repeat (first | exact (Kd.C_below HR0_2.out HB.out) | (with_reducible refine Kd.C_alloc ?_ _) | (with_reducible refine Kd.C_drewN ?_ _) | (with_reducible refine Kd.C_drew ?_))); (case side2 => exact HC0_2.out); (case side3 => repeat (first | exact (Kd.C_below HR0_3.out HB.out) | (with_reducible refine Kd.C_alloc ?_ _) | (with_reducible refine Kd.C_drewN ?_ _) | (with_reducible refine Kd.C_drew ?_))); (case side4 => exact HC0_3.out); (case side5 => repeat (first | exact (Kd.C_below HR1.out HB.out) | (with_reducible refine Kd.C_alloc ?_ _) | (with_reducible refine Kd.C_drewN ?_ _) | (with_reducible refine Kd.C_drew ?_))); (case side6 => exact HC1.out); (case side7 => repeat (first | exact (Kd.C_below HR2.out HB.out) | (with_reducible refine Kd.C_alloc ?_ _) | (with_reducible refine Kd.C_drewN ?_ _) | (with_reducible refine Kd.C_drew ?_))); (case side8 => exact HC2.out); rintro e w86 ⟨rfl, hb⟩; refine ⟨_, rfl, ?_⟩; replace HO_7 := Aside0.mk (Kd.R_below (uR HO_7.out) hb); replace BK800 := Aside0.mk (blk_below (uK BK800.out) hb); replace HB := Aside0.mk (below_step uB hb); (try clear hb); (try clear hb2); (try clear hk); (try clear hi)) | (go_at_call 14; (with_reducible refine (quinarialaw02_known.calls kj37  t820 _ ?sideT A84.out).mono ?_); (case sideT => exact HT.out.below uB); rintro e w87 ⟨rfl, hb⟩; replace HO_7 := Aside0.mk (Kd.R_below (uR HO_7.out) hb); replace BK800 := Aside0.mk (blk_below (uK BK800.out) hb); replace HB := Aside0.mk (below_step uB hb); (try clear hb); (try clear hb2); (try clear hk); (try clear hi)))
             go_ret
             exact ⟨uE, uB⟩
      ·rw [if_neg c37] at H
       have c37b0 : (t810 == 0) = false := beq_eq_false_iff_ne.mpr c37
       have c37b1 : (t810 != 0) = true := bne_iff_ne.mpr c37
       by_cases c88 : t810 = 5
       ·rw [if_pos c88] at H
        have c88b0 : (t810 == 5) = true := beq_iff_eq.mpr c88
        have c88b1 : (t810 != 5) = false := bne_eq_false_iff_eq.mpr c88
        clear c88
        by_cases c89 : t811 = true
        ·subst c89
         have H1 : (some false) = some r := by rw [if_pos rfl] at H; exact H
         clear H
         have H := H1
         clear H1
         obtain rfl := Option.some.inj H
         obtain ⟨hcz90_0, hcz90_1, hcz90_2, hcz90_3⟩ := cz4 BK800.out
         obtain ⟨hfz90_0, hfz90_1, hfz90_2, hfz90_3⟩ := fz4 BK800.out
         go_wp2_with (first | ((with_reducible refine gate_callee (f := 28) rfl ?_); refine goesL_ (some 42) rfl rfl Tryz.func28 (by kernel_rfl) rfl #[.agg #[.int .i64 a0_0, .int .i64 a0_1, .slice A0_2 l0_2.length c0_2, .slice A0_3 l0_3.length c0_3], .slice A1 l1.length c1] rfl uM ?_; (with_reducible refine (channel_Pipes.calls a0_0 a0_1 _ _ l0_2 _ _ l0_3 _ _ l1 t806 t809 t810 _ ?side1 ?side2 ?side3 ?side4 ?side5 ?side6 A35.out).mono ?_); (case side1 => repeat (first | exact (Kd.C_below HR0_2.out HB.out) | (with_reducible refine Kd.C_alloc ?_ _) | (with_reducible refine Kd.C_drewN ?_ _) | (with_reducible refine Kd.C_drew ?_))); (case side2 => exact HC0_2.out); (case side3 => repeat (first | exact (Kd.C_below HR0_3.out HB.out) | (with_reducible refine Kd.C_alloc ?_ _) | (with_reducible refine Kd.C_drewN ?_ _) | (with_reducible refine Kd.C_drew ?_))); (case side4 => exact HC0_3.out); (case side5 => repeat (first | exact (Kd.C_below HR1.out HB.out) | (with_reducible refine Kd.C_alloc ?_ _) | (with_reducible refine Kd.C_drewN ?_ _) | (with_reducible refine Kd.C_drew ?_))); (case side6 => exact HC1.out); rintro e w91 ⟨v807, rfl, ho0, hb⟩; refine ⟨_, rfl, ?_⟩; have HO808 := Aside0.mk (Kd.R_lower ho0 (below_size uB)); replace BK800 := Aside0.mk (blk_below (uK BK800.out) hb); replace HB := Aside0.mk (below_step uB hb); (try clear hb); (try clear hb2); (try clear hk); (try clear hi); (try clear ho0); obtain ⟨hcz92_0, hcz92_1, hcz92_2, hcz92_3⟩ := cz4 BK800.out; obtain ⟨hfz92_0, hfz92_1, hfz92_2, hfz92_3⟩ := fz4 BK800.out) | ((with_reducible refine gate_callee (f := 31) rfl ?_); refine goesL_ (some 49) rfl rfl Tryz.func31 (by kernel_rfl) rfl #[.agg #[.int .i64 a0_0, .int .i64 a0_1, .slice A0_2 l0_2.length c0_2, .slice A0_3 l0_3.length c0_3], .slice A1 l1.length c1, .slice A2 l2.length c2] rfl uM ?_; (with_reducible refine (quinariaref02_Suffices.calls kj3 a0_0 a0_1 _ _ l0_2 _ _ l0_3 _ _ l1 _ _ l2 true _ ?side1 ?side2 ?side3 ?side4 ?side5 ?side6 ?side7 ?side8 A36.out).mono ?_); (case side1 => repeat (first | exact (Kd.C_below HR0_2.out HB.out) | (with_reducible refine Kd.C_alloc ?_ _) | (with_reducible refine Kd.C_drewN ?_ _) | (with_reducible refine Kd.C_drew ?_))); (case side2 => exact HC0_2.out); (case side3 => repeat (first | exact (Kd.C_below HR0_3.out HB.out) | (with_reducible refine Kd.C_alloc ?_ _) | (with_reducible refine Kd.C_drewN ?_ _) | (with_reducible refine Kd.C_drew ?_))); (case side4 => exact HC0_3.out); (case side5 => repeat (first | exact (Kd.C_below HR1.out HB.out) | (with_reducible refine Kd.C_alloc ?_ _) | (with_reducible refine Kd.C_drewN ?_ _) | (with_reducible refine Kd.C_drew ?_))); (case side6 => exact HC1.out); (case side7 => repeat (first | exact (Kd.C_below HR2.out HB.out) | (with_reducible refine Kd.C_alloc ?_ _) | (with_reducible refine Kd.C_drewN ?_ _) | (with_reducible refine Kd.C_drew ?_))); (case side8 => exact HC2.out); rintro e w93 ⟨rfl, hb⟩; refine ⟨_, rfl, ?_⟩; replace HO808 := Aside0.mk (Kd.R_below (uR HO808.out) hb); replace BK800 := Aside0.mk (blk_below (uK BK800.out) hb); replace HB := Aside0.mk (below_step uB hb); (try clear hb); (try clear hb2); (try clear hk); (try clear hi)))
         go_ret
         exact ⟨uE, uB⟩
        ·replace c89 := Bool.eq_false_iff.mpr c89
         subst c89
         have H1 : ((quinarialaw02_known.f kj3).bind fun t812 => (some t812)) = some r := by rw [if_neg (show ¬ (false = true) by decide)] at H; exact H
         clear H
         have H := H1
         clear H1
         replace H := Option.bind_eq_some_iff.mp H
         obtain ⟨t812, A940, H⟩ := H
         replace H : (some t812) = some r := H
         have A94 := Aside0.mk A940
         clear A940
         obtain rfl := Option.some.inj H
         obtain ⟨hcz95_0, hcz95_1, hcz95_2, hcz95_3⟩ := cz4 BK800.out
         obtain ⟨hfz95_0, hfz95_1, hfz95_2, hfz95_3⟩ := fz4 BK800.out
         go_wp2_with (first | ((with_reducible refine gate_callee (f := 28) rfl ?_); refine goesL_ (some 42) rfl rfl Tryz.func28 (by kernel_rfl) rfl #[.agg #[.int .i64 a0_0, .int .i64 a0_1, .slice A0_2 l0_2.length c0_2, .slice A0_3 l0_3.length c0_3], .slice A1 l1.length c1] rfl uM ?_; (with_reducible refine (channel_Pipes.calls a0_0 a0_1 _ _ l0_2 _ _ l0_3 _ _ l1 t806 t809 t810 _ ?side1 ?side2 ?side3 ?side4 ?side5 ?side6 A35.out).mono ?_); (case side1 => repeat (first | exact (Kd.C_below HR0_2.out HB.out) | (with_reducible refine Kd.C_alloc ?_ _) | (with_reducible refine Kd.C_drewN ?_ _) | (with_reducible refine Kd.C_drew ?_))); (case side2 => exact HC0_2.out); (case side3 => repeat (first | exact (Kd.C_below HR0_3.out HB.out) | (with_reducible refine Kd.C_alloc ?_ _) | (with_reducible refine Kd.C_drewN ?_ _) | (with_reducible refine Kd.C_drew ?_))); (case side4 => exact HC0_3.out); (case side5 => repeat (first | exact (Kd.C_below HR1.out HB.out) | (with_reducible refine Kd.C_alloc ?_ _) | (with_reducible refine Kd.C_drewN ?_ _) | (with_reducible refine Kd.C_drew ?_))); (case side6 => exact HC1.out); rintro e w96 ⟨v807, rfl, ho0, hb⟩; refine ⟨_, rfl, ?_⟩; have HO808 := Aside0.mk (Kd.R_lower ho0 (below_size uB)); replace BK800 := Aside0.mk (blk_below (uK BK800.out) hb); replace HB := Aside0.mk (below_step uB hb); (try clear hb); (try clear hb2); (try clear hk); (try clear hi); (try clear ho0); obtain ⟨hcz97_0, hcz97_1, hcz97_2, hcz97_3⟩ := cz4 BK800.out; obtain ⟨hfz97_0, hfz97_1, hfz97_2, hfz97_3⟩ := fz4 BK800.out) | ((with_reducible refine gate_callee (f := 31) rfl ?_); refine goesL_ (some 49) rfl rfl Tryz.func31 (by kernel_rfl) rfl #[.agg #[.int .i64 a0_0, .int .i64 a0_1, .slice A0_2 l0_2.length c0_2, .slice A0_3 l0_3.length c0_3], .slice A1 l1.length c1, .slice A2 l2.length c2] rfl uM ?_; (with_reducible refine (quinariaref02_Suffices.calls kj3 a0_0 a0_1 _ _ l0_2 _ _ l0_3 _ _ l1 _ _ l2 false _ ?side1 ?side2 ?side3 ?side4 ?side5 ?side6 ?side7 ?side8 A36.out).mono ?_); (case side1 => repeat (first | exact (Kd.C_below HR0_2.out HB.out) | (with_reducible refine Kd.C_alloc ?_ _) | (with_reducible refine Kd.C_drewN ?_ _) | (with_reducible refine Kd.C_drew ?_))); (case side2 => exact HC0_2.out); (case side3 => repeat (first | exact (Kd.C_below HR0_3.out HB.out) | (with_reducible refine Kd.C_alloc ?_ _) | (with_reducible refine Kd.C_drewN ?_ _) | (with_reducible refine Kd.C_drew ?_))); (case side4 => exact HC0_3.out); (case side5 => repeat (first | exact (Kd.C_below HR1.out HB.out) | (with_reducible refine Kd.C_alloc ?_ _) | (with_reducible refine Kd.C_drewN ?_ _) | (with_reducible refine Kd.C_drew ?_))); (case side6 => exact HC1.out); (case side7 => repeat (first | exact (Kd.C_below HR2.out HB.out) | (with_reducible refine Kd.C_alloc ?_ _) | (with_reducible refine Kd.C_drewN ?_ _) | (with_reducible refine Kd.C_drew ?_))); (case side8 => exact HC2.out); rintro e w98 ⟨rfl, hb⟩; refine ⟨_, rfl, ?_⟩; replace HO808 := Aside0.mk (Kd.R_below (uR HO808.out) hb); replace BK800 := Aside0.mk (blk_below (uK BK800.out) hb); replace HB := Aside0.mk (below_step uB hb); (try clear hb); (try clear hb2); (try clear hk); (try clear hi)) | (go_at_call 14; (with_reducible refine (quinarialaw02_known.calls kj3  t812 _ ?sideT A94.out).mono ?_); (case sideT => exact HT.out.below uB); rintro e w99 ⟨rfl, hb⟩; replace HO808 := Aside0.mk (Kd.R_below (uR HO808.out) hb); replace BK800 := Aside0.mk (blk_below (uK BK800.out) hb); replace HB := Aside0.mk (below_step uB hb); (try clear hb); (try clear hb2); (try clear hk); (try clear hi)))
         go_ret
         exact ⟨uE, uB⟩
       ·rw [if_neg c88] at H
        have c88b0 : (t810 == 5) = false := beq_eq_false_iff_ne.mpr c88
        have c88b1 : (t810 != 5) = true := bne_iff_ne.mpr c88
        obtain rfl := Option.some.inj H
        obtain ⟨hcz100_0, hcz100_1, hcz100_2, hcz100_3⟩ := cz4 BK800.out
        obtain ⟨hfz100_0, hfz100_1, hfz100_2, hfz100_3⟩ := fz4 BK800.out
        go_wp2_with (first | ((with_reducible refine gate_callee (f := 28) rfl ?_); refine goesL_ (some 42) rfl rfl Tryz.func28 (by kernel_rfl) rfl #[.agg #[.int .i64 a0_0, .int .i64 a0_1, .slice A0_2 l0_2.length c0_2, .slice A0_3 l0_3.length c0_3], .slice A1 l1.length c1] rfl uM ?_; (with_reducible refine (channel_Pipes.calls a0_0 a0_1 _ _ l0_2 _ _ l0_3 _ _ l1 t806 t809 t810 _ ?side1 ?side2 ?side3 ?side4 ?side5 ?side6 A35.out).mono ?_); (case side1 => repeat (first | exact (Kd.C_below HR0_2.out HB.out) | (with_reducible refine Kd.C_alloc ?_ _) | (with_reducible refine Kd.C_drewN ?_ _) | (with_reducible refine Kd.C_drew ?_))); (case side2 => exact HC0_2.out); (case side3 => repeat (first | exact (Kd.C_below HR0_3.out HB.out) | (with_reducible refine Kd.C_alloc ?_ _) | (with_reducible refine Kd.C_drewN ?_ _) | (with_reducible refine Kd.C_drew ?_))); (case side4 => exact HC0_3.out); (case side5 => repeat (first | exact (Kd.C_below HR1.out HB.out) | (with_reducible refine Kd.C_alloc ?_ _) | (with_reducible refine Kd.C_drewN ?_ _) | (with_reducible refine Kd.C_drew ?_))); (case side6 => exact HC1.out); rintro e w101 ⟨v807, rfl, ho0, hb⟩; refine ⟨_, rfl, ?_⟩; have HO808 := Aside0.mk (Kd.R_lower ho0 (below_size uB)); replace BK800 := Aside0.mk (blk_below (uK BK800.out) hb); replace HB := Aside0.mk (below_step uB hb); (try clear hb); (try clear hb2); (try clear hk); (try clear hi); (try clear ho0); obtain ⟨hcz102_0, hcz102_1, hcz102_2, hcz102_3⟩ := cz4 BK800.out; obtain ⟨hfz102_0, hfz102_1, hfz102_2, hfz102_3⟩ := fz4 BK800.out) | ((with_reducible refine gate_callee (f := 31) rfl ?_); refine goesL_ (some 49) rfl rfl Tryz.func31 (by kernel_rfl) rfl #[.agg #[.int .i64 a0_0, .int .i64 a0_1, .slice A0_2 l0_2.length c0_2, .slice A0_3 l0_3.length c0_3], .slice A1 l1.length c1, .slice A2 l2.length c2] rfl uM ?_; (with_reducible refine (quinariaref02_Suffices.calls kj3 a0_0 a0_1 _ _ l0_2 _ _ l0_3 _ _ l1 _ _ l2 t811 _ ?side1 ?side2 ?side3 ?side4 ?side5 ?side6 ?side7 ?side8 A36.out).mono ?_); (case side1 => repeat (first | exact (Kd.C_below HR0_2.out HB.out) | (with_reducible refine Kd.C_alloc ?_ _) | (with_reducible refine Kd.C_drewN ?_ _) | (with_reducible refine Kd.C_drew ?_))); (case side2 => exact HC0_2.out); (case side3 => repeat (first | exact (Kd.C_below HR0_3.out HB.out) | (with_reducible refine Kd.C_alloc ?_ _) | (with_reducible refine Kd.C_drewN ?_ _) | (with_reducible refine Kd.C_drew ?_))); (case side4 => exact HC0_3.out); (case side5 => repeat (first | exact (Kd.C_below HR1.out HB.out) | (with_reducible refine Kd.C_alloc ?_ _) | (with_reducible refine Kd.C_drewN ?_ _) | (with_reducible refine Kd.C_drew ?_))); (case side6 => exact HC1.out); (case side7 => repeat (first | exact (Kd.C_below HR2.out HB.out) | (with_reducible refine Kd.C_alloc ?_ _) | (with_reducible refine Kd.C_drewN ?_ _) | (with_reducible refine Kd.C_drew ?_))); (case side8 => exact HC2.out); rintro e w103 ⟨rfl, hb⟩; refine ⟨_, rfl, ?_⟩; replace HO808 := Aside0.mk (Kd.R_below (uR HO808.out) hb); replace BK800 := Aside0.mk (blk_below (uK BK800.out) hb); replace HB := Aside0.mk (below_step uB hb); (try clear hb); (try clear hb2); (try clear hk); (try clear hi)))
        go_ret
        exact ⟨uE, uB⟩
end Go.Proofs.YtdmdahafiiggiabGreatDoor.K
end
section
namespace Go.Proofs.YtdmdahafiiggiabGreatDoor.K
open Go.RowKit Go.Proofs.YtdmdahafiiggiabGreatDoorW.PrintWords Go.Proofs.YtdmdahafiiggiabGreatDoorW.PrintLast Go.Proofs.YtdmdahafiiggiabGreatDoorW.PrintMore
variable {a b : Int} {pts : List SPA} {lens : List Int} {cl : List CLA} {ch : List Int}
theorem pipes_first (h1 : isSiphonB a b pts lens = true) (h2 : areClassesB cl = true) (h3 : chosenB lens cl ch = true) : (pipesF a b pts lens cl = ([], 0, 5) ∧ suffB a b pts lens cl ch = false) ∨ ∃ z, pipesF a b pts lens cl = (z, priceN lens cl z z.length, 0) ∧ chosenB lens cl z = true ∧ suffB a b pts lens cl z = true ∧ (suffB a b pts lens cl ch = true → priceN lens cl z z.length < priceN lens cl ch ch.length ∨ priceN lens cl z z.length = priceN lens cl ch ch.length ∧ Pl.before ch z = false) := by
  unfold pipesF
  rw [if_pos ⟨h1, h2⟩]
  unfold filtP
  have ht := tails_chosen h3
  cases e : bestP (((tails cl.length lens.length).filter (suffB a b pts lens cl)).map fun x => (x, priceN lens cl x x.length)) with
  | none =>
    left
    refine ⟨rfl, ?_⟩
    have h4 := bestP_none (fun x => priceN lens cl x x.length) e
    cases hs : suffB a b pts lens cl ch with
    | false => rfl
    | true =>
      have : ch ∈ (tails cl.length lens.length).filter (suffB a b pts lens cl) := List.mem_filter.mpr ⟨ht, hs⟩
      rw [h4] at this
      cases this
  | some y =>
    right
    obtain ⟨h5, h6, h7⟩ := bestP_first (fun x => priceN lens cl x x.length) ((tailsK_sorted cl.length lens.length).filter _) e
    obtain ⟨hz1, hz2⟩ := List.mem_filter.mp h5
    refine ⟨y.1, ?_, chosenQ_tails rfl hz1, hz2, fun hs => h7 ch (List.mem_filter.mpr ⟨ht, hs⟩)⟩
    show (y.1, y.2, (0 : Int)) = _
    rw [h6]
theorem cheaper_go (h1 : isSiphonB a b pts lens = true) (h2 : areClassesB cl = true) (h3 : chosenB lens cl ch = true) (hl : cl.length ≤ 100) : quinarialaw02_ChannelCheaper.j0 (400 + 1 + 1) cl ch false a b pts lens = some true := by
  have h := siphon_ok h1
  have hk := classes_ok h2
  have hln := h.ln
  have hn1 := h.n1
  obtain ⟨c1, c2⟩ := chosen_spec h3
  rw [quinarialaw02_ChannelCheaper.j0, if_neg (by simp), pipesQ_f (by omega) (by omega) (by omega), Option.bind_some, suffR_f h hk c1 c2 _ (by omega), Option.bind_some]
  rcases pipes_first (a := a) (b := b) (pts := pts) (lens := lens) (cl := cl) h1 h2 h3 with ⟨e, hs⟩ | ⟨z, e, hz1, hz2, hz3⟩
  · rw [e, hs]
    rfl
  · rw [e]
    obtain ⟨z3, z4⟩ := chosen_spec hz1
    simp only [if_true]
    rw [chosenR_f (by omega) hl _ (by omega), Option.bind_some, hz1, if_pos rfl, suffR_f h hk z3 z4 _ (by omega), Option.bind_some, hz2, if_pos rfl, priceR_f h hk z3 z4 _ (by omega), Option.bind_some, bne_self_eq_false]
    rw [quinarialaw02_ChannelCheaper.j1, if_neg (by simp), priceR_f h hk c1 c2 _ (by omega), Option.bind_some]
    cases hs : suffB a b pts lens cl ch with
    | false => rfl
    | true =>
      rw [if_pos rfl]
      rcases hz3 hs with hlt | ⟨heq, hbf⟩
      · rw [if_pos hlt]
        rfl
      · rw [if_neg (by omega), if_pos heq.symm, before_f ch z (by omega) (by omega) _ (by omega), Option.bind_some, hbf, if_neg (by simp)]
        rfl
theorem ChannelCheaper_pure (a b : Int) (pts : List SPA) (lens : List Int) (cl : List CLA) (ch : List Int) : quinarialaw02_ChannelCheaper.f (400 + 1 + 1) a b pts lens cl ch = some true := by
  have hk : quinarialaw02_ChannelCheaper.j0 (400 + 1 + 1) cl ch true a b pts lens = some true := by
    rw [quinarialaw02_ChannelCheaper.j0, if_pos rfl]
    rfl
  unfold quinarialaw02_ChannelCheaper.f
  rw [slim_f, Option.bind_some]
  cases h0 : slimB pts lens cl with
  | false => rw [if_neg (by simp)]; exact hk
  | true =>
    have hl := slim_lens h0
    rw [if_pos rfl]
    by_cases h10 : (ch.length : Int) > 10
    · rw [if_pos h10]; exact hk
    rw [if_neg h10, siphonR_f (by omega) (by omega) _ (by omega), Option.bind_some]
    cases h1 : isSiphonB a b pts lens with
    | false => rw [if_neg (by simp)]; exact hk
    | true =>
    rw [if_pos rfl, classesR_f (by omega) _ (by omega), Option.bind_some]
    cases h2 : areClassesB cl with
    | false => rw [if_neg (by simp)]; exact hk
    | true =>
    rw [if_pos rfl, chosenR_f (by omega) (by omega) _ (by omega), Option.bind_some]
    cases h3 : chosenB lens cl ch with
    | false => exact hk
    | true => exact cheaper_go h1 h2 h3 (by omega)
theorem ChannelCheaper_law (a b : Int) (A0 A1 : Option Addr) (c0 c1 : Nat) (pts : List SPA) (lens : List Int) (A2 : Option Addr) (c2 : Nat) (cl : List CLA) (A3 : Option Addr) (c3 : Nat) (ch : List Int) (w : World) (hT : TabW w) (h0 : At' k23 w A0 pts.length c0 pts) (h1 : At' (Kd.int .i64) w A1 lens.length c1 lens) (h2 : At' k53 w A2 cl.length c2 cl) (h3 : At' (Kd.int .i64) w A3 ch.length c3 ch) :
    Calls Tryz.prog 8 #[.agg #[.int .i64 a, .int .i64 b, .slice A0 pts.length c0, .slice A1 lens.length c1], .slice A2 cl.length c2, .slice A3 ch.length c3] w fun e w' => e = .returned (.bool true) ∧ Below w.heap.size w w' :=
  quinarialaw02_ChannelCheaper.calls _ a b A0 c0 pts A1 c1 lens A2 c2 cl A3 c3 ch true w h0.c h0.le h1.c h1.le h2.c h2.le h3.c h3.le hT (ChannelCheaper_pure a b pts lens cl ch)
end Go.Proofs.YtdmdahafiiggiabGreatDoor.K
end
