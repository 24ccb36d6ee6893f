/- ChannelBursts: the walk of the law, and what it comes to. -/
import Derived.Test.YtdmdahafiiggiabGreatDoorB5
set_option linter.unusedVariables false
set_option linter.unusedSimpArgs false
section
namespace Go.Proofs.YtdmdahafiiggiabGreatDoor.K
open Go.RowKit Go.Proofs.YtdmdahafiiggiabGreatDoorW.PrintWords Go.Proofs.YtdmdahafiiggiabGreatDoorW.PrintLast Go.Proofs.YtdmdahafiiggiabGreatDoorW.PrintMore
attribute [local go_sem] max2_int min2_int max_two min_two max_three min_three max_four min_four
set_option linter.unusedVariables false
set_option linter.unusedSimpArgs false
mutual
def quinarialaw02_ChannelBursts.j0 : Nat → List (S53) → List Int → Bool → Int → Int → List (S23) → List Int → Option (Bool)
 | 0, _, _, _, _, _, _, _ => none
 | k + 1, x1, x2, x17, x674000, x674001, x674002, x674003 => if x17 = true then ((quinarialaw02_known.f k).bind fun t675 => (some t675)) else ((channel_Bursts.f x674000 x674001 x674002 x674003 x1 x2).bind fun bt676 => ((quinariaref02_Siphon.f k x674000 x674001 x674002 x674003).bind fun t680 => (if t680 = true then ((quinariaref02_Classes.f k x1).bind fun t681 => (if t681 = true then ((quinariaref02_Chosen.f k x674000 x674001 x674002 x674003 x1 x2).bind fun t682 => (quinarialaw02_ChannelBursts.j1 k x1 x2 bt676.1 bt676.2 (!t682) x674000 x674001 x674002 x674003)) else (quinarialaw02_ChannelBursts.j1 k x1 x2 bt676.1 bt676.2 true x674000 x674001 x674002 x674003))) else (quinarialaw02_ChannelBursts.j1 k x1 x2 bt676.1 bt676.2 true x674000 x674001 x674002 x674003))))
def quinarialaw02_ChannelBursts.j1 : Nat → List (S53) → List Int → List Int → Int → Bool → Int → Int → List (S23) → List Int → Option (Bool)
 | 0, _, _, _, _, _, _, _, _, _ => none
 | k + 1, x1, x2, x7, x8, x40, x674000, x674001, x674002, x674003 => if x40 = true then (if x8 = 2 then (if (x7.length : Int) = 0 then ((quinarialaw02_known.f k).bind fun t683 => (some t683)) else (some false)) else (some false)) else (if x8 = 0 then ((quinariaref02_Bursts.f k x674000 x674001 x674002 x674003 x1 x2).bind fun t684 => ((quinariaref02_Same.f k x7 t684).bind fun t687 => (if t687 = true then ((quinarialaw02_known.f k).bind fun t688 => (some t688)) else (some false)))) else (some false))
end
def quinarialaw02_ChannelBursts.f (k : Nat) (a0_0 : Int) (a0_1 : Int) (l0_2 : List (S23)) (l0_3 : List Int) (l1 : List (S53)) (l2 : List Int) : Option (Bool) := (quinarialaw02_slim.f a0_0 a0_1 l0_2 l0_3 l1).bind fun t674 => (if t674 = true then (quinarialaw02_ChannelBursts.j0 k l1 l2 (decide ((l2.length : Int) > 10)) a0_0 a0_1 l0_2 l0_3) else (quinarialaw02_ChannelBursts.j0 k l1 l2 true a0_0 a0_1 l0_2 l0_3))
set_option maxHeartbeats 8000000 in
set_option maxRecDepth 100000 in
theorem quinarialaw02_ChannelBursts.calls (k : Nat) (a0_0 : Int) (a0_1 : Int) (A0_2 : Option Addr) (c0_2 : Nat) (l0_2 : List (S23)) (A0_3 : Option Addr) (c0_3 : Nat) (l0_3 : List Int) (A1 : Option Addr) (c1 : Nat) (l1 : List (S53)) (A2 : Option Addr) (c2 : Nat) (l2 : List Int) (r : Bool) (w : World) (hr0_2 : Kd.C k23 w A0_2 l0_2.length l0_2) (hc0_2 : l0_2.length ≤ c0_2) (hr0_3 : Kd.C (Kd.int .i64) w A0_3 l0_3.length l0_3) (hc0_3 : l0_3.length ≤ c0_3) (hr1 : Kd.C k53 w A1 l1.length l1) (hc1 : l1.length ≤ c1) (hr2 : Kd.C (Kd.int .i64) w A2 l2.length l2) (hc2 : l2.length ≤ c2) (hT : TabW w) (h : quinarialaw02_ChannelBursts.f k a0_0 a0_1 l0_2 l0_3 l1 l2 = some r) :
  Calls Tryz.prog 5 #[.agg #[.int .i64 a0_0, .int .i64 a0_1, .slice A0_2 l0_2.length c0_2, .slice A0_3 l0_3.length c0_3], .slice A1 l1.length c1, .slice A2 l2.length c2] w fun e w' => e = .returned (.bool r) ∧ Below w.heap.size w w' := by
 have HT := Aside0.mk hT
 clear hT
 have hu27 := Tryz.underlying27
 have HR0_2 := Aside0.mk hr0_2
 have HC0_2 := Aside0.mk hc0_2
 clear hr0_2 hc0_2
 have HR0_3 := Aside0.mk hr0_3
 have HC0_3 := Aside0.mk hc0_3
 clear hr0_3 hc0_3
 have HR1 := Aside0.mk hr1
 have HC1 := Aside0.mk hc1
 clear hr1 hc1
 have HR2 := Aside0.mk hr2
 have HC2 := Aside0.mk hc2
 clear hr2 hc2
 have HB := Aside0.mk (Below.refl w.heap.size w)
 have H : ((quinarialaw02_slim.f a0_0 a0_1 l0_2 l0_3 l1).bind fun t674 => (if t674 = true then (quinarialaw02_ChannelBursts.j0 k l1 l2 (decide ((l2.length : Int) > 10)) a0_0 a0_1 l0_2 l0_3) else (quinarialaw02_ChannelBursts.j0 k l1 l2 true a0_0 a0_1 l0_2 l0_3))) = some r := h
 clear h
 have HC4 := Aside0.mk H
 clear H
 go_enter Tryz.func5, Tryz.ntmps5
 go_upto_region 1 with (first | ((with_reducible refine gate_dst (N := 3) rfl ?_); (try (refine gate_guard (by rfl) ?_; dsimp only)); refine bxe 3 #[.int .i64 a0_0, .int .i64 a0_1, .slice A0_2 l0_2.length c0_2, .slice A0_3 l0_3.length c0_3] 27 ?_; intro gb673 hg w5 hbox hb; have n0_ := Aside0.mk (below_step uB hb); have n1_ := Aside0.mk (hbox); have n2_ := gw hg; have n3_ := gw hg; clear HB; have HB := n0_; have BK673 := n1_; have GW673 := n2_; have GE673 := n3_; clear n0_ n1_ n2_ n3_; clear hb hbox hg))
 (try simp only [Act.put, List.setIfInBounds_toArray, List.set_cons_zero, List.set_cons_succ])
 go_cut [17] (fun v17 wc => ∃ (kq : Nat) (x17_3 : Bool), v17 = .bool x17_3 ∧ Aside0 (quinarialaw02_ChannelBursts.j0 kq l1 l2 x17_3 a0_0 a0_1 l0_2 l0_3 = some r) ∧ Aside0 (kq ≤ k) ∧ Aside0 (wc.heap[gb673]? = some (.cells #[.int .i64 a0_0, .int .i64 a0_1, (.slice A0_2 l0_2.length c0_2), (.slice A0_3 l0_3.length c0_3)] 27 (0, 0))) ∧ Aside0 (Below w.heap.size w wc))
 case first =>
  as_aux_lemma =>
   have H := HC4.out
   clear HC4
   replace H := Option.bind_eq_some_iff.mp H
   obtain ⟨t674, A60, H⟩ := H
   replace H : (if t674 = true then (quinarialaw02_ChannelBursts.j0 k l1 l2 (decide ((l2.length : Int) > 10)) a0_0 a0_1 l0_2 l0_3) else (quinarialaw02_ChannelBursts.j0 k l1 l2 true a0_0 a0_1 l0_2 l0_3)) = some r := H
   have A6 := Aside0.mk A60
   clear A60
   by_cases c7 : t674 = true
   ·subst c7
    have H1 : (quinarialaw02_ChannelBursts.j0 k l1 l2 (decide ((l2.length : Int) > 10)) a0_0 a0_1 l0_2 l0_3) = some r := by rw [if_pos rfl] at H; exact H
    clear H
    have H := H1
    clear H1
    have H' := Aside0.mk H
    clear H
    obtain ⟨hcz8_0, hcz8_1, hcz8_2, hcz8_3⟩ := cz4 BK673.out
    obtain ⟨hfz8_0, hfz8_1, hfz8_2, hfz8_3⟩ := fz4 BK673.out
    go_wp2_with (first | ((with_reducible refine gate_callee (f := 13) rfl ?_); refine goesL_ (some 11) rfl rfl Tryz.func13 (by kernel_rfl) rfl #[.agg #[.int .i64 a0_0, .int .i64 a0_1, .slice A0_2 l0_2.length c0_2, .slice A0_3 l0_3.length c0_3], .slice A1 l1.length c1] rfl uM ?_; (with_reducible refine (quinarialaw02_slim.calls a0_0 a0_1 _ _ l0_2 _ _ l0_3 _ _ l1 true _ ?side1 ?side2 ?side3 ?side4 ?side5 ?side6 A6.out).mono ?_); (case side1 => repeat (first | exact (Kd.C_below HR0_2.out HB.out) | (with_reducible refine Kd.C_alloc ?_ _) | (with_reducible refine Kd.C_drewN ?_ _) | (with_reducible refine Kd.C_drew ?_))); (case side2 => exact HC0_2.out); (case side3 => repeat (first | exact (Kd.C_below HR0_3.out HB.out) | (with_reducible refine Kd.C_alloc ?_ _) | (with_reducible refine Kd.C_drewN ?_ _) | (with_reducible refine Kd.C_drew ?_))); (case side4 => exact HC0_3.out); (case side5 => repeat (first | exact (Kd.C_below HR1.out HB.out) | (with_reducible refine Kd.C_alloc ?_ _) | (with_reducible refine Kd.C_drewN ?_ _) | (with_reducible refine Kd.C_drew ?_))); (case side6 => exact HC1.out); rintro e w9 ⟨rfl, hb⟩; refine ⟨_, rfl, ?_⟩; replace BK673 := Aside0.mk (blk_below (uK BK673.out) hb); replace HB := Aside0.mk (below_step uB hb); (try clear hb); (try clear hb2); (try clear hk); (try clear hi)))
    go_meet
    case rel => exact ⟨_, (decide ((l2.length : Int) > 10)), u0, H', ⟨u1⟩, ⟨uK BK673.out⟩, ⟨uB⟩⟩
   ·replace c7 := Bool.eq_false_iff.mpr c7
    subst c7
    have H1 : (quinarialaw02_ChannelBursts.j0 k l1 l2 true a0_0 a0_1 l0_2 l0_3) = some r := by rw [if_neg (show ¬ (false = true) by decide)] at H; exact H
    clear H
    have H := H1
    clear H1
    have H' := Aside0.mk H
    clear H
    obtain ⟨hcz10_0, hcz10_1, hcz10_2, hcz10_3⟩ := cz4 BK673.out
    obtain ⟨hfz10_0, hfz10_1, hfz10_2, hfz10_3⟩ := fz4 BK673.out
    go_wp2_with (first | ((with_reducible refine gate_callee (f := 13) rfl ?_); refine goesL_ (some 11) rfl rfl Tryz.func13 (by kernel_rfl) rfl #[.agg #[.int .i64 a0_0, .int .i64 a0_1, .slice A0_2 l0_2.length c0_2, .slice A0_3 l0_3.length c0_3], .slice A1 l1.length c1] rfl uM ?_; (with_reducible refine (quinarialaw02_slim.calls a0_0 a0_1 _ _ l0_2 _ _ l0_3 _ _ l1 false _ ?side1 ?side2 ?side3 ?side4 ?side5 ?side6 A6.out).mono ?_); (case side1 => repeat (first | exact (Kd.C_below HR0_2.out HB.out) | (with_reducible refine Kd.C_alloc ?_ _) | (with_reducible refine Kd.C_drewN ?_ _) | (with_reducible refine Kd.C_drew ?_))); (case side2 => exact HC0_2.out); (case side3 => repeat (first | exact (Kd.C_below HR0_3.out HB.out) | (with_reducible refine Kd.C_alloc ?_ _) | (with_reducible refine Kd.C_drewN ?_ _) | (with_reducible refine Kd.C_drew ?_))); (case side4 => exact HC0_3.out); (case side5 => repeat (first | exact (Kd.C_below HR1.out HB.out) | (with_reducible refine Kd.C_alloc ?_ _) | (with_reducible refine Kd.C_drewN ?_ _) | (with_reducible refine Kd.C_drew ?_))); (case side6 => exact HC1.out); rintro e w11 ⟨rfl, hb⟩; refine ⟨_, rfl, ?_⟩; replace BK673 := Aside0.mk (blk_below (uK BK673.out) hb); replace HB := Aside0.mk (below_step uB hb); (try clear hb); (try clear hb2); (try clear hk); (try clear hi)))
    go_meet
    case rel => exact ⟨_, (true), u0, H', ⟨u1⟩, ⟨uK BK673.out⟩, ⟨uB⟩⟩
 case rest =>
  as_aux_lemma =>
   clear HC4; try clear c1; try clear c2; try clear p2; try clear c5; try clear c7; try clear hcz10_0; try clear hcz10_1; try clear hcz10_2; try clear hcz10_3; try clear hcz8_0; try clear hcz8_1; try clear hcz8_2; try clear hcz8_3; try clear hfz10_0; try clear hfz10_1; try clear hfz10_2; try clear hfz10_3; try clear hfz8_0; try clear hfz8_1; try clear hfz8_2; try clear hfz8_3
   obtain ⟨kq, x17_3, rfl, HA, HJ3, BK673, HB⟩ := hcut
   cases kq with
   | zero => exact absurd HA.out (by simp [quinarialaw02_ChannelBursts.j0])
   | succ kj3 =>
    have H := HA.out
    clear HA
    simp only [quinarialaw02_ChannelBursts.j0] at H
    by_cases c12 : x17_3 = true
    ·subst c12
     have H1 : ((quinarialaw02_known.f kj3).bind fun t675 => (some t675)) = some r := by rw [if_pos rfl] at H; exact H
     clear H
     have H := H1
     clear H1
     replace H := Option.bind_eq_some_iff.mp H
     obtain ⟨t675, A130, H⟩ := H
     replace H : (some t675) = some r := H
     have A13 := Aside0.mk A130
     clear A130
     obtain rfl := Option.some.inj H
     go_wp2_with (first | ((with_reducible refine gate_callee (f := 14) rfl ?_); refine goesL_ (some 18) rfl rfl Tryz.func14 (by kernel_rfl) rfl #[] rfl uM ?_; (with_reducible refine (quinarialaw02_known.calls kj3  t675 _ ?sideT A13.out).mono ?_); (case sideT => exact HT.out.below uB); rintro e w14 ⟨rfl, hb⟩; refine ⟨_, rfl, ?_⟩; replace BK673 := Aside0.mk (blk_below (uK BK673.out) hb); replace HB := Aside0.mk (below_step uB hb); (try clear hb); (try clear hb2); (try clear hk); (try clear hi)))
     go_ret
     exact ⟨uE, uB⟩
    ·as_aux_lemma =>
      replace c12 := Bool.eq_false_iff.mpr c12
      subst c12
      have H1 : ((channel_Bursts.f a0_0 a0_1 l0_2 l0_3 l1 l2).bind fun bt676 => ((quinariaref02_Siphon.f kj3 a0_0 a0_1 l0_2 l0_3).bind fun t680 => (if t680 = true then ((quinariaref02_Classes.f kj3 l1).bind fun t681 => (if t681 = true then ((quinariaref02_Chosen.f kj3 a0_0 a0_1 l0_2 l0_3 l1 l2).bind fun t682 => (quinarialaw02_ChannelBursts.j1 kj3 l1 l2 bt676.1 bt676.2 (!t682) a0_0 a0_1 l0_2 l0_3)) else (quinarialaw02_ChannelBursts.j1 kj3 l1 l2 bt676.1 bt676.2 true a0_0 a0_1 l0_2 l0_3))) else (quinarialaw02_ChannelBursts.j1 kj3 l1 l2 bt676.1 bt676.2 true a0_0 a0_1 l0_2 l0_3)))) = some r := by rw [if_neg (show ¬ (false = true) by decide)] at H; exact H
      clear H
      have H := H1
      clear H1
      replace H := Option.bind_eq_some_iff.mp H
      obtain ⟨⟨t676, t679⟩, A150, H⟩ := H
      replace H : ((quinariaref02_Siphon.f kj3 a0_0 a0_1 l0_2 l0_3).bind fun t680 => (if t680 = true then ((quinariaref02_Classes.f kj3 l1).bind fun t681 => (if t681 = true then ((quinariaref02_Chosen.f kj3 a0_0 a0_1 l0_2 l0_3 l1 l2).bind fun t682 => (quinarialaw02_ChannelBursts.j1 kj3 l1 l2 t676 t679 (!t682) a0_0 a0_1 l0_2 l0_3)) else (quinarialaw02_ChannelBursts.j1 kj3 l1 l2 t676 t679 true a0_0 a0_1 l0_2 l0_3))) else (quinarialaw02_ChannelBursts.j1 kj3 l1 l2 t676 t679 true a0_0 a0_1 l0_2 l0_3))) = some r := H
      have A15 := Aside0.mk A150
      clear A150
      have HC16 := Aside0.mk H
      clear H
      obtain ⟨hcz17_0, hcz17_1, hcz17_2, hcz17_3⟩ := cz4 BK673.out
      obtain ⟨hfz17_0, hfz17_1, hfz17_2, hfz17_3⟩ := fz4 BK673.out
      go_upto_region 4 with (first | ((with_reducible refine gate_callee (f := 23) rfl ?_); refine goesL_ (some 23) rfl rfl Tryz.func23 (by kernel_rfl) rfl #[.agg #[.int .i64 a0_0, .int .i64 a0_1, .slice A0_2 l0_2.length c0_2, .slice A0_3 l0_3.length c0_3], .slice A1 l1.length c1, .slice A2 l2.length c2] rfl uM ?_; (with_reducible refine (channel_Bursts.calls a0_0 a0_1 _ _ l0_2 _ _ l0_3 _ _ l1 _ _ l2 t676 t679 _ ?side1 ?side2 ?side3 ?side4 ?side5 ?side6 ?side7 ?side8 A15.out).mono ?_); (case side1 => repeat (first | exact (Kd.C_below HR0_2.out HB.out) | (with_reducible refine Kd.C_alloc ?_ _) | (with_reducible refine Kd.C_drewN ?_ _) | (with_reducible refine Kd.C_drew ?_))); (case side2 => exact HC0_2.out); (case side3 => repeat (first | exact (Kd.C_below HR0_3.out HB.out) | (with_reducible refine Kd.C_alloc ?_ _) | (with_reducible refine Kd.C_drewN ?_ _) | (with_reducible refine Kd.C_drew ?_))); (case side4 => exact HC0_3.out); (case side5 => repeat (first | exact (Kd.C_below HR1.out HB.out) | (with_reducible refine Kd.C_alloc ?_ _) | (with_reducible refine Kd.C_drewN ?_ _) | (with_reducible refine Kd.C_drew ?_))); (case side6 => exact HC1.out); (case side7 => repeat (first | exact (Kd.C_below HR2.out HB.out) | (with_reducible refine Kd.C_alloc ?_ _) | (with_reducible refine Kd.C_drewN ?_ _) | (with_reducible refine Kd.C_drew ?_))); (case side8 => exact HC2.out); rintro e w18 ⟨v677, rfl, ho0, hb⟩; refine ⟨_, rfl, ?_⟩; have HO678 := Aside0.mk (Kd.R_lower ho0 (below_size uB)); replace BK673 := Aside0.mk (blk_below (uK BK673.out) hb); replace HB := Aside0.mk (below_step uB hb); (try clear hb); (try clear hb2); (try clear hk); (try clear hi); (try clear ho0)))
      (try simp only [Act.put, List.setIfInBounds_toArray, List.set_cons_zero, List.set_cons_succ])
      go_cut [40] (fun v40 wc => ∃ (kq : Nat) (x40_15 : Bool), v40 = .bool x40_15 ∧ Aside0 (quinarialaw02_ChannelBursts.j1 kq l1 l2 t676 t679 x40_15 a0_0 a0_1 l0_2 l0_3 = some r) ∧ Aside0 (kq ≤ kj3) ∧ Aside0 (Kd.R (Kd.int .i64) 3 wc w.heap.size (fun _ => True) v677 t676) ∧ Aside0 (wc.heap[gb673]? = some (.cells #[.int .i64 a0_0, .int .i64 a0_1, (.slice A0_2 l0_2.length c0_2), (.slice A0_3 l0_3.length c0_3)] 27 (0, 0))) ∧ Aside0 (Below w.heap.size w wc))
      case first =>
       as_aux_lemma =>
        have H := HC16.out
        clear HC16
        replace H := Option.bind_eq_some_iff.mp H
        obtain ⟨t680, A190, H⟩ := H
        replace H : (if t680 = true then ((quinariaref02_Classes.f kj3 l1).bind fun t681 => (if t681 = true then ((quinariaref02_Chosen.f kj3 a0_0 a0_1 l0_2 l0_3 l1 l2).bind fun t682 => (quinarialaw02_ChannelBursts.j1 kj3 l1 l2 t676 t679 (!t682) a0_0 a0_1 l0_2 l0_3)) else (quinarialaw02_ChannelBursts.j1 kj3 l1 l2 t676 t679 true a0_0 a0_1 l0_2 l0_3))) else (quinarialaw02_ChannelBursts.j1 kj3 l1 l2 t676 t679 true a0_0 a0_1 l0_2 l0_3)) = some r := H
        have A19 := Aside0.mk A190
        clear A190
        by_cases c20 : t680 = true
        ·subst c20
         have H1 : ((quinariaref02_Classes.f kj3 l1).bind fun t681 => (if t681 = true then ((quinariaref02_Chosen.f kj3 a0_0 a0_1 l0_2 l0_3 l1 l2).bind fun t682 => (quinarialaw02_ChannelBursts.j1 kj3 l1 l2 t676 t679 (!t682) a0_0 a0_1 l0_2 l0_3)) else (quinarialaw02_ChannelBursts.j1 kj3 l1 l2 t676 t679 true a0_0 a0_1 l0_2 l0_3))) = some r := by rw [if_pos rfl] at H; exact H
         clear H
         have H := H1
         clear H1
         replace H := Option.bind_eq_some_iff.mp H
         obtain ⟨t681, A210, H⟩ := H
         replace H : (if t681 = true then ((quinariaref02_Chosen.f kj3 a0_0 a0_1 l0_2 l0_3 l1 l2).bind fun t682 => (quinarialaw02_ChannelBursts.j1 kj3 l1 l2 t676 t679 (!t682) a0_0 a0_1 l0_2 l0_3)) else (quinarialaw02_ChannelBursts.j1 kj3 l1 l2 t676 t679 true a0_0 a0_1 l0_2 l0_3)) = some r := H
         have A21 := Aside0.mk A210
         clear A210
         by_cases c22 : t681 = true
         ·subst c22
          have H1 : ((quinariaref02_Chosen.f kj3 a0_0 a0_1 l0_2 l0_3 l1 l2).bind fun t682 => (quinarialaw02_ChannelBursts.j1 kj3 l1 l2 t676 t679 (!t682) a0_0 a0_1 l0_2 l0_3)) = some r := by rw [if_pos rfl] at H; exact H
          clear H
          have H := H1
          clear H1
          replace H := Option.bind_eq_some_iff.mp H
          obtain ⟨t682, A230, H⟩ := H
          replace H : (quinarialaw02_ChannelBursts.j1 kj3 l1 l2 t676 t679 (!t682) a0_0 a0_1 l0_2 l0_3) = some r := H
          have A23 := Aside0.mk A230
          clear A230
          have H' := Aside0.mk H
          clear H
          obtain ⟨hcz24_0, hcz24_1, hcz24_2, hcz24_3⟩ := cz4 BK673.out
          obtain ⟨hfz24_0, hfz24_1, hfz24_2, hfz24_3⟩ := fz4 BK673.out
          go_wp2_with (first | ((with_reducible refine gate_callee (f := 17) rfl ?_); refine goesL_ (some 27) rfl rfl Tryz.func17 (by kernel_rfl) rfl #[.agg #[.int .i64 a0_0, .int .i64 a0_1, .slice A0_2 l0_2.length c0_2, .slice A0_3 l0_3.length c0_3]] rfl uM ?_; (with_reducible refine (quinariaref02_Siphon.calls kj3 a0_0 a0_1 _ _ l0_2 _ _ l0_3 true _ ?side1 ?side2 ?side3 ?side4 A19.out).mono ?_); (case side1 => repeat (first | exact (Kd.C_below HR0_2.out HB.out) | (with_reducible refine Kd.C_alloc ?_ _) | (with_reducible refine Kd.C_drewN ?_ _) | (with_reducible refine Kd.C_drew ?_))); (case side2 => exact HC0_2.out); (case side3 => repeat (first | exact (Kd.C_below HR0_3.out HB.out) | (with_reducible refine Kd.C_alloc ?_ _) | (with_reducible refine Kd.C_drewN ?_ _) | (with_reducible refine Kd.C_drew ?_))); (case side4 => exact HC0_3.out); rintro e w25 ⟨rfl, hb⟩; refine ⟨_, rfl, ?_⟩; replace HO678 := Aside0.mk (Kd.R_below (uR HO678.out) hb); replace BK673 := Aside0.mk (blk_below (uK BK673.out) hb); replace HB := Aside0.mk (below_step uB hb); (try clear hb); (try clear hb2); (try clear hk); (try clear hi)) | (go_at_call 24; (with_reducible refine (quinariaref02_Classes.calls kj3 _ _ l1 true _ ?side1 ?side2 A21.out).mono ?_); (case side1 => repeat (first | exact (Kd.C_below HR1.out HB.out) | (with_reducible refine Kd.C_alloc ?_ _) | (with_reducible refine Kd.C_drewN ?_ _) | (with_reducible refine Kd.C_drew ?_))); (case side2 => exact HC1.out); rintro e w' ⟨rfl, ⟨nd, rfl⟩⟩; obtain ⟨hcz26_0, hcz26_1, hcz26_2, hcz26_3⟩ := cz4 BK673.out; obtain ⟨hfz26_0, hfz26_1, hfz26_2, hfz26_3⟩ := fz4 BK673.out) | (go_at_call 25; (with_reducible refine (quinariaref02_Chosen.calls kj3 a0_0 a0_1 _ _ l0_2 _ _ l0_3 _ _ l1 _ _ l2 t682 _ ?side1 ?side2 ?side3 ?side4 ?side5 ?side6 ?side7 ?side8 A23.out).mono ?_); (case side1 => repeat (first | exact (Kd.C_below HR0_2.out uB) | (with_reducible refine Kd.C_alloc ?_ _) | (with_reducible refine Kd.C_drewN ?_ _) | (with_reducible refine Kd.C_drew ?_))); (case side2 => exact HC0_2.out); (case side3 => repeat (first | exact (Kd.C_below HR0_3.out uB) | (with_reducible refine Kd.C_alloc ?_ _) | (with_reducible refine Kd.C_drewN ?_ _) | (with_reducible refine Kd.C_drew ?_))); (case side4 => exact HC0_3.out); (case side5 => repeat (first | exact (Kd.C_below HR1.out uB) | (with_reducible refine Kd.C_alloc ?_ _) | (with_reducible refine Kd.C_drewN ?_ _) | (with_reducible refine Kd.C_drew ?_))); (case side6 => exact HC1.out); (case side7 => repeat (first | exact (Kd.C_below HR2.out uB) | (with_reducible refine Kd.C_alloc ?_ _) | (with_reducible refine Kd.C_drewN ?_ _) | (with_reducible refine Kd.C_drew ?_))); (case side8 => exact HC2.out); rintro e w27 ⟨rfl, hb⟩; replace HO678 := Aside0.mk (Kd.R_below (uR HO678.out) hb); replace BK673 := Aside0.mk (blk_below (uK BK673.out) hb); replace HB := Aside0.mk (below_step uB hb); (try clear hb); (try clear hb2); (try clear hk); (try clear hi)))
          go_meet
          case rel => exact ⟨_, (!t682), u0, H', ⟨by have := HJ3.out; first | omega | exact Nat.le_refl _⟩, ⟨uR HO678.out⟩, ⟨uK BK673.out⟩, ⟨uB⟩⟩
         ·replace c22 := Bool.eq_false_iff.mpr c22
          subst c22
          have H1 : (quinarialaw02_ChannelBursts.j1 kj3 l1 l2 t676 t679 true a0_0 a0_1 l0_2 l0_3) = some r := by rw [if_neg (show ¬ (false = true) by decide)] at H; exact H
          clear H
          have H := H1
          clear H1
          have H' := Aside0.mk H
          clear H
          obtain ⟨hcz28_0, hcz28_1, hcz28_2, hcz28_3⟩ := cz4 BK673.out
          obtain ⟨hfz28_0, hfz28_1, hfz28_2, hfz28_3⟩ := fz4 BK673.out
          go_wp2_with (first | ((with_reducible refine gate_callee (f := 17) rfl ?_); refine goesL_ (some 27) rfl rfl Tryz.func17 (by kernel_rfl) rfl #[.agg #[.int .i64 a0_0, .int .i64 a0_1, .slice A0_2 l0_2.length c0_2, .slice A0_3 l0_3.length c0_3]] rfl uM ?_; (with_reducible refine (quinariaref02_Siphon.calls kj3 a0_0 a0_1 _ _ l0_2 _ _ l0_3 true _ ?side1 ?side2 ?side3 ?side4 A19.out).mono ?_); (case side1 => repeat (first | exact (Kd.C_below HR0_2.out HB.out) | (with_reducible refine Kd.C_alloc ?_ _) | (with_reducible refine Kd.C_drewN ?_ _) | (with_reducible refine Kd.C_drew ?_))); (case side2 => exact HC0_2.out); (case side3 => repeat (first | exact (Kd.C_below HR0_3.out HB.out) | (with_reducible refine Kd.C_alloc ?_ _) | (with_reducible refine Kd.C_drewN ?_ _) | (with_reducible refine Kd.C_drew ?_))); (case side4 => exact HC0_3.out); rintro e w29 ⟨rfl, hb⟩; refine ⟨_, rfl, ?_⟩; replace HO678 := Aside0.mk (Kd.R_below (uR HO678.out) hb); replace BK673 := Aside0.mk (blk_below (uK BK673.out) hb); replace HB := Aside0.mk (below_step uB hb); (try clear hb); (try clear hb2); (try clear hk); (try clear hi)) | (go_at_call 24; (with_reducible refine (quinariaref02_Classes.calls kj3 _ _ l1 false _ ?side1 ?side2 A21.out).mono ?_); (case side1 => repeat (first | exact (Kd.C_below HR1.out HB.out) | (with_reducible refine Kd.C_alloc ?_ _) | (with_reducible refine Kd.C_drewN ?_ _) | (with_reducible refine Kd.C_drew ?_))); (case side2 => exact HC1.out); rintro e w' ⟨rfl, ⟨nd, rfl⟩⟩))
          go_meet
          case rel => exact ⟨_, (true), u0, H', ⟨by have := HJ3.out; first | omega | exact Nat.le_refl _⟩, ⟨uR HO678.out⟩, ⟨uK BK673.out⟩, ⟨uB⟩⟩
        ·replace c20 := Bool.eq_false_iff.mpr c20
         subst c20
         have H1 : (quinarialaw02_ChannelBursts.j1 kj3 l1 l2 t676 t679 true a0_0 a0_1 l0_2 l0_3) = some r := by rw [if_neg (show ¬ (false = true) by decide)] at H; exact H
         clear H
         have H := H1
         clear H1
         have H' := Aside0.mk H
         clear H
         obtain ⟨hcz30_0, hcz30_1, hcz30_2, hcz30_3⟩ := cz4 BK673.out
         obtain ⟨hfz30_0, hfz30_1, hfz30_2, hfz30_3⟩ := fz4 BK673.out
         go_wp2_with (first | ((with_reducible refine gate_callee (f := 17) rfl ?_); refine goesL_ (some 27) rfl rfl Tryz.func17 (by kernel_rfl) rfl #[.agg #[.int .i64 a0_0, .int .i64 a0_1, .slice A0_2 l0_2.length c0_2, .slice A0_3 l0_3.length c0_3]] rfl uM ?_; (with_reducible refine (quinariaref02_Siphon.calls kj3 a0_0 a0_1 _ _ l0_2 _ _ l0_3 false _ ?side1 ?side2 ?side3 ?side4 A19.out).mono ?_); (case side1 => repeat (first | exact (Kd.C_below HR0_2.out HB.out) | (with_reducible refine Kd.C_alloc ?_ _) | (with_reducible refine Kd.C_drewN ?_ _) | (with_reducible refine Kd.C_drew ?_))); (case side2 => exact HC0_2.out); (case side3 => repeat (first | exact (Kd.C_below HR0_3.out HB.out) | (with_reducible refine Kd.C_alloc ?_ _) | (with_reducible refine Kd.C_drewN ?_ _) | (with_reducible refine Kd.C_drew ?_))); (case side4 => exact HC0_3.out); rintro e w31 ⟨rfl, hb⟩; refine ⟨_, rfl, ?_⟩; replace HO678 := Aside0.mk (Kd.R_below (uR HO678.out) hb); replace BK673 := Aside0.mk (blk_below (uK BK673.out) hb); replace HB := Aside0.mk (below_step uB hb); (try clear hb); (try clear hb2); (try clear hk); (try clear hi)))
         go_meet
         case rel => exact ⟨_, (true), u0, H', ⟨by have := HJ3.out; first | omega | exact Nat.le_refl _⟩, ⟨uR HO678.out⟩, ⟨uK BK673.out⟩, ⟨uB⟩⟩
      case rest =>
       as_aux_lemma =>
        clear HC16; try clear c1; try clear c2; try clear p2; try clear c5; try clear c7; try clear c12; try clear c13; try clear c14; try clear c17; try clear c20; try clear c22; try clear c23; try clear hcz10_0; try clear hcz10_1; try clear hcz10_2; try clear hcz10_3; try clear hcz17_0; try clear hcz17_1; try clear hcz17_2; try clear hcz17_3; try clear hcz24_0; try clear hcz24_1; try clear hcz24_2; try clear hcz24_3; try clear hcz26_0; try clear hcz26_1; try clear hcz26_2; try clear hcz26_3; try clear hcz28_0; try clear hcz28_1; try clear hcz28_2; try clear hcz28_3; try clear hcz30_0; try clear hcz30_1; try clear hcz30_2; try clear hcz30_3; try clear hcz8_0; try clear hcz8_1; try clear hcz8_2; try clear hcz8_3; try clear hfz10_0; try clear hfz10_1; try clear hfz10_2; try clear hfz10_3; try clear hfz17_0; try clear hfz17_1; try clear hfz17_2; try clear hfz17_3; try clear hfz24_0; try clear hfz24_1; try clear hfz24_2; try clear hfz24_3; try clear hfz26_0; try clear hfz26_1; try clear hfz26_2; try clear hfz26_3; try clear hfz28_0; try clear hfz28_1; try clear hfz28_2; try clear hfz28_3; try clear hfz30_0; try clear hfz30_1; try clear hfz30_2; try clear hfz30_3; try clear hfz8_0; try clear hfz8_1; try clear hfz8_2; try clear hfz8_3; try clear p2
        obtain ⟨kq, x40_15, rfl, HA, HJ15, HO_7, BK673, HB⟩ := hcut
        cases kq with
        | zero => exact absurd HA.out (by simp [quinarialaw02_ChannelBursts.j1])
        | succ kj15 =>
         have H := HA.out
         clear HA
         simp only [quinarialaw02_ChannelBursts.j1] at H
         by_cases c32 : x40_15 = true
         ·subst c32
          have H1 : (if t679 = 2 then (if (t676.length : Int) = 0 then ((quinarialaw02_known.f kj15).bind fun t683 => (some t683)) else (some false)) else (some false)) = some r := by rw [if_pos rfl] at H; exact H
          clear H
          have H := H1
          clear H1
          by_cases c33 : t679 = 2
          ·rw [if_pos c33] at H
           have c33b0 : (t679 == 2) = true := beq_iff_eq.mpr c33
           have c33b1 : (t679 != 2) = false := bne_eq_false_iff_eq.mpr c33
           clear c33
           by_cases c34 : (t676.length : Int) = 0
           ·rw [if_pos c34] at H
            have c34b0 : ((t676.length : Int) == 0) = true := beq_iff_eq.mpr c34
            have c34b1 : ((t676.length : Int) != 0) = false := bne_eq_false_iff_eq.mpr c34
            clear c34
            replace H := Option.bind_eq_some_iff.mp H
            obtain ⟨t683, A350, H⟩ := H
            replace H : (some t683) = some r := H
            have A35 := Aside0.mk A350
            clear A350
            obtain rfl := Option.some.inj H
            obtain ⟨Ao36, co36, eo36⟩ := Kd.R_slice HO_7.out
            subst eo36
            go_wp2_with (first | (go_at_call 14; (with_reducible refine (quinarialaw02_known.calls kj15  t683 _ ?sideT A35.out).mono ?_); (case sideT => exact HT.out.below uB); rintro e w37 ⟨rfl, hb⟩; replace HO_7 := Aside0.mk (Kd.R_below (uR HO_7.out) hb); replace BK673 := Aside0.mk (blk_below (uK BK673.out) hb); replace HB := Aside0.mk (below_step uB hb); (try clear hb); (try clear hb2); (try clear hk); (try clear hi)))
            go_ret
            exact ⟨uE, uB⟩
           ·rw [if_neg c34] at H
            have c34b0 : ((t676.length : Int) == 0) = false := beq_eq_false_iff_ne.mpr c34
            have c34b1 : ((t676.length : Int) != 0) = true := bne_iff_ne.mpr c34
            have c34b2 : ¬ (t676 = []) := fun h_ => c34 (by rw [h_]; rfl)
            obtain rfl := Option.some.inj H
            obtain ⟨Ao38, co38, eo38⟩ := Kd.R_slice HO_7.out
            subst eo38
            go_wp2
            go_ret
            exact ⟨uE, uB⟩
          ·rw [if_neg c33] at H
           have c33b0 : (t679 == 2) = false := beq_eq_false_iff_ne.mpr c33
           have c33b1 : (t679 != 2) = true := bne_iff_ne.mpr c33
           obtain rfl := Option.some.inj H
           go_wp2
           go_ret
           exact ⟨uE, uB⟩
         ·replace c32 := Bool.eq_false_iff.mpr c32
          subst c32
          have H1 : (if t679 = 0 then ((quinariaref02_Bursts.f kj15 a0_0 a0_1 l0_2 l0_3 l1 l2).bind fun t684 => ((quinariaref02_Same.f kj15 t676 t684).bind fun t687 => (if t687 = true then ((quinarialaw02_known.f kj15).bind fun t688 => (some t688)) else (some false)))) else (some false)) = some r := by rw [if_neg (show ¬ (false = true) by decide)] at H; exact H
          clear H
          have H := H1
          clear H1
          by_cases c39 : t679 = 0
          ·rw [if_pos c39] at H
           have c39b0 : (t679 == 0) = true := beq_iff_eq.mpr c39
           have c39b1 : (t679 != 0) = false := bne_eq_false_iff_eq.mpr c39
           clear c39
           replace H := Option.bind_eq_some_iff.mp H
           obtain ⟨t684, A400, H⟩ := H
           replace H : ((quinariaref02_Same.f kj15 t676 t684).bind fun t687 => (if t687 = true then ((quinarialaw02_known.f kj15).bind fun t688 => (some t688)) else (some false))) = some r := H
           have A40 := Aside0.mk A400
           clear A400
           replace H := Option.bind_eq_some_iff.mp H
           obtain ⟨t687, A410, H⟩ := H
           replace H : (if t687 = true then ((quinarialaw02_known.f kj15).bind fun t688 => (some t688)) else (some false)) = some r := H
           have A41 := Aside0.mk A410
           clear A410
           by_cases c42 : t687 = true
           ·subst c42
            have H1 : ((quinarialaw02_known.f kj15).bind fun t688 => (some t688)) = some r := by rw [if_pos rfl] at H; exact H
            clear H
            have H := H1
            clear H1
            replace H := Option.bind_eq_some_iff.mp H
            obtain ⟨t688, A430, H⟩ := H
            replace H : (some t688) = some r := H
            have A43 := Aside0.mk A430
            clear A430
            obtain rfl := Option.some.inj H
            obtain ⟨hcz44_0, hcz44_1, hcz44_2, hcz44_3⟩ := cz4 BK673.out
            obtain ⟨hfz44_0, hfz44_1, hfz44_2, hfz44_3⟩ := fz4 BK673.out
            go_wp2_with (first | (go_at_call 27; (with_reducible refine (quinariaref02_Bursts.calls kj15 a0_0 a0_1 _ _ l0_2 _ _ l0_3 _ _ l1 _ _ l2 t684 _ ?side1 ?side2 ?side3 ?side4 ?side5 ?side6 ?side7 ?side8 A40.out).mono ?_); (case side1 => repeat (first | exact (Kd.C_below HR0_2.out HB.out) | (with_reducible refine Kd.C_alloc ?_ _) | (with_reducible refine Kd.C_drewN ?_ _) | (with_reducible refine Kd.C_drew ?_))); (case side2 => exact HC0_2.out); (case side3 => repeat (first | exact (Kd.C_below HR0_3.out HB.out) | (with_reducible refine Kd.C_alloc ?_ _) | (with_reducible refine Kd.C_drewN ?_ _) | (with_reducible refine Kd.C_drew ?_))); (case side4 => exact HC0_3.out); (case side5 => repeat (first | exact (Kd.C_below HR1.out HB.out) | (with_reducible refine Kd.C_alloc ?_ _) | (with_reducible refine Kd.C_drewN ?_ _) | (with_reducible refine Kd.C_drew ?_))); (case side6 => exact HC1.out); (case side7 => repeat (first | exact (Kd.C_below HR2.out HB.out) | (with_reducible refine Kd.C_alloc ?_ _) | (with_reducible refine Kd.C_drewN ?_ _) | (with_reducible refine Kd.C_drew ?_))); (case side8 => exact HC2.out); rintro e w45 ⟨v685, rfl, ho0, hb⟩; have n0_ := Aside0.mk (Kd.R_elder' (uR HO_7.out) (Kd.R_base ho0) hb); have n1_ := Aside0.mk (Kd.R_lower (Kd.R_new' ho0 (Kd.R_lt (uR HO_7.out))) (below_size uB)); have n2_ := Aside0.mk (blk_below (uK BK673.out) hb); have n3_ := Aside0.mk (below_step uB hb); clear HO_7; clear BK673; clear HB; have HO_7 := n0_; have HO686 := n1_; have BK673 := n2_; have HB := n3_; clear n0_ n1_ n2_ n3_; (try clear hb); (try clear hb2); (try clear hk); (try clear hi); (try clear ho0); obtain ⟨Ao46, co46, eo46⟩ := Kd.R_slice HO_7.out; subst eo46; obtain ⟨Ao47, co47, eo47⟩ := Kd.R_slice HO686.out; subst eo47) | (go_at_call 26; (with_reducible refine (quinariaref02_Same.calls kj15 _ _ t676 _ _ t684 true _ ?side1 ?side2 ?side3 ?side4 A41.out).mono ?_); (case side1 => repeat (first | exact (Kd.R_reads' HO_7.out).2.2 | (with_reducible refine Kd.C_alloc ?_ _) | (with_reducible refine Kd.C_drewN ?_ _) | (with_reducible refine Kd.C_drew ?_))); (case side2 => exact (Kd.R_reads' HO_7.out).2.1); (case side3 => repeat (first | exact (Kd.R_reads' HO686.out).2.2 | (with_reducible refine Kd.C_alloc ?_ _) | (with_reducible refine Kd.C_drewN ?_ _) | (with_reducible refine Kd.C_drew ?_))); (case side4 => exact (Kd.R_reads' HO686.out).2.1); rintro e w' ⟨rfl, ⟨nd, rfl⟩⟩) | (go_at_call 14; (with_reducible refine (quinarialaw02_known.calls kj15  t688 _ ?sideT A43.out).mono ?_); (case sideT => exact HT.out.below uB); rintro e w48 ⟨rfl, hb⟩; replace HO_7 := Aside0.mk (Kd.R_below (uR HO_7.out) hb); replace HO686 := Aside0.mk (Kd.R_below (uR HO686.out) hb); replace BK673 := Aside0.mk (blk_below (uK BK673.out) hb); replace HB := Aside0.mk (below_step uB hb); (try clear hb); (try clear hb2); (try clear hk); (try clear hi)))
            go_ret
            exact ⟨uE, uB⟩
           ·replace c42 := Bool.eq_false_iff.mpr c42
            subst c42
            have H1 : (some false) = some r := by rw [if_neg (show ¬ (false = true) by decide)] at H; exact H
            clear H
            have H := H1
            clear H1
            obtain rfl := Option.some.inj H
            obtain ⟨hcz49_0, hcz49_1, hcz49_2, hcz49_3⟩ := cz4 BK673.out
            obtain ⟨hfz49_0, hfz49_1, hfz49_2, hfz49_3⟩ := fz4 BK673.out
            go_wp2_with (first | (go_at_call 27; (with_reducible refine (quinariaref02_Bursts.calls kj15 a0_0 a0_1 _ _ l0_2 _ _ l0_3 _ _ l1 _ _ l2 t684 _ ?side1 ?side2 ?side3 ?side4 ?side5 ?side6 ?side7 ?side8 A40.out).mono ?_); (case side1 => repeat (first | exact (Kd.C_below HR0_2.out HB.out) | (with_reducible refine Kd.C_alloc ?_ _) | (with_reducible refine Kd.C_drewN ?_ _) | (with_reducible refine Kd.C_drew ?_))); (case side2 => exact HC0_2.out); (case side3 => repeat (first | exact (Kd.C_below HR0_3.out HB.out) | (with_reducible refine Kd.C_alloc ?_ _) | (with_reducible refine Kd.C_drewN ?_ _) | (with_reducible refine Kd.C_drew ?_))); (case side4 => exact HC0_3.out); (case side5 => repeat (first | exact (Kd.C_below HR1.out HB.out) | (with_reducible refine Kd.C_alloc ?_ _) | (with_reducible refine Kd.C_drewN ?_ _) | (with_reducible refine Kd.C_drew ?_))); (case side6 => exact HC1.out); (case side7 => repeat (first | exact (Kd.C_below HR2.out HB.out) | (with_reducible refine Kd.C_alloc ?_ _) | (with_reducible refine Kd.C_drewN ?_ _) | (with_reducible refine Kd.C_drew ?_))); (case side8 => exact HC2.out); rintro e w50 ⟨v685, rfl, ho0, hb⟩; have n0_ := Aside0.mk (Kd.R_elder' (uR HO_7.out) (Kd.R_base ho0) hb); have n1_ := Aside0.mk (Kd.R_lower (Kd.R_new' ho0 (Kd.R_lt (uR HO_7.out))) (below_size uB)); have n2_ := Aside0.mk (blk_below (uK BK673.out) hb); have n3_ := Aside0.mk (below_step uB hb); clear HO_7; clear BK673; clear HB; have HO_7 := n0_; have HO686 := n1_; have BK673 := n2_; have HB := n3_; clear n0_ n1_ n2_ n3_; (try clear hb); (try clear hb2); (try clear hk); (try clear hi); (try clear ho0); obtain ⟨Ao51, co51, eo51⟩ := Kd.R_slice HO_7.out; subst eo51; obtain ⟨Ao52, co52, eo52⟩ := Kd.R_slice HO686.out; subst eo52) | (go_at_call 26; (with_reducible refine (quinariaref02_Same.calls kj15 _ _ t676 _ _ t684 false _ ?side1 ?side2 ?side3 ?side4 A41.out).mono ?_); (case side1 => repeat (first | exact (Kd.R_reads' HO_7.out).2.2 | (with_reducible refine Kd.C_alloc ?_ _) | (with_reducible refine Kd.C_drewN ?_ _) | (with_reducible refine Kd.C_drew ?_))); (case side2 => exact (Kd.R_reads' HO_7.out).2.1); (case side3 => repeat (first | exact (Kd.R_reads' HO686.out).2.2 | (with_reducible refine Kd.C_alloc ?_ _) | (with_reducible refine Kd.C_drewN ?_ _) | (with_reducible refine Kd.C_drew ?_))); (case side4 => exact (Kd.R_reads' HO686.out).2.1); rintro e w' ⟨rfl, ⟨nd, rfl⟩⟩))
            go_ret
            exact ⟨uE, uB⟩
          ·rw [if_neg c39] at H
           have c39b0 : (t679 == 0) = false := beq_eq_false_iff_ne.mpr c39
           have c39b1 : (t679 != 0) = true := bne_iff_ne.mpr c39
           obtain rfl := Option.some.inj H
           go_wp2
           go_ret
           exact ⟨uE, uB⟩
end Go.Proofs.YtdmdahafiiggiabGreatDoor.K
end
section
namespace Go.Proofs.YtdmdahafiiggiabGreatDoor.K
open Go.RowKit Go.Proofs.YtdmdahafiiggiabGreatDoorW.PrintWords Go.Proofs.YtdmdahafiiggiabGreatDoorW.PrintLast Go.Proofs.YtdmdahafiiggiabGreatDoorW.PrintMore
set_option linter.unusedVariables false
set_option linter.unusedSimpArgs false
theorem ChannelBursts_pure (a b : Int) (pts : List SPA) (lens : List Int) (cl : List CLA) (ch : List Int) : quinarialaw02_ChannelBursts.f (200 + 1 + 1) a b pts lens cl ch = some true := by
  have hk : quinarialaw02_ChannelBursts.j0 (200 + 1 + 1) cl ch true a b pts lens = some true := by
    rw [quinarialaw02_ChannelBursts.j0, if_pos rfl]
    rfl
  unfold quinarialaw02_ChannelBursts.f
  rw [slim_f, Option.bind_some]
  cases hs : slimB pts lens cl with
  | false => exact hk
  | true =>
    have hl := slim_lens hs
    rw [if_pos rfl]
    by_cases h10 : (ch.length : Int) > 10
    · rw [decide_eq_true h10]; exact hk
    have hbad : choiceB a b pts lens cl ch = false → quinarialaw02_ChannelBursts.j1 (200 + 1) cl ch (if choiceB a b pts lens cl ch = true then (burstL a b pts cl ch lens.length, (0 : Int)) else ([], 2)).1 (if choiceB a b pts lens cl ch = true then (burstL a b pts cl ch lens.length, (0 : Int)) else ([], 2)).2 true a b pts lens = some true := fun h => by
      rw [h, quinarialaw02_ChannelBursts.j1, if_pos rfl]
      rfl
    rw [decide_eq_false h10, quinarialaw02_ChannelBursts.j0, if_neg (by simp), burstsC_f (by omega) (by omega) (by omega) (by omega), Option.bind_some, siphonR_f (by omega) (by omega) _ (by omega), Option.bind_some]
    cases e1 : isSiphonB a b pts lens with
    | false => rw [if_neg (by simp)]; exact hbad (by rw [choice_eq, e1]; rfl)
    | true =>
    rw [if_pos rfl, classesR_f (by omega) _ (by omega), Option.bind_some]
    cases e2 : areClassesB cl with
    | false => rw [if_neg (by simp)]; exact hbad (by rw [choice_eq, e1, e2]; rfl)
    | true =>
    rw [if_pos rfl, chosenR_f (by omega) (by omega) _ (by omega), Option.bind_some]
    cases e3 : chosenB lens cl ch with
    | false => exact hbad (by rw [choice_eq, e1, e2, e3]; rfl)
    | true =>
      have h := siphon_ok e1
      obtain ⟨c1, c2⟩ := chosen_spec e3
      have hbl := burstL_len a b pts cl ch lens.length
      rw [Bool.not_true, show choiceB a b pts lens cl ch = true by rw [choice_eq, e1, e2, e3]; rfl, quinarialaw02_ChannelBursts.j1, if_neg (by simp)]
      simp only [if_true]
      rw [burstsR_f h c1 c2 _ (by omega), Option.bind_some, same_f _ (by omega) _ (by omega), Option.bind_some, if_pos rfl]
      rfl
theorem ChannelBursts_law (a b : Int) (A0 A1 : Option Addr) (c0 c1 : Nat) (pts : List SPA) (lens : List Int) (A2 : Option Addr) (c2 : Nat) (cl : List CLA) (A3 : Option Addr) (c3 : Nat) (ch : List Int) (w : World) (hT : TabW w) (h0 : At' k23 w A0 pts.length c0 pts) (h1 : At' (Kd.int .i64) w A1 lens.length c1 lens) (h2 : At' k53 w A2 cl.length c2 cl) (h3 : At' (Kd.int .i64) w A3 ch.length c3 ch) :
    Calls Tryz.prog 5 #[.agg #[.int .i64 a, .int .i64 b, .slice A0 pts.length c0, .slice A1 lens.length c1], .slice A2 cl.length c2, .slice A3 ch.length c3] w fun e w' => e = .returned (.bool true) ∧ Below w.heap.size w w' :=
  quinarialaw02_ChannelBursts.calls _ a b A0 c0 pts A1 c1 lens A2 c2 cl A3 c3 ch true w h0.c h0.le h1.c h1.le h2.c h2.le h3.c h3.le hT (ChannelBursts_pure a b pts lens cl ch)
end Go.Proofs.YtdmdahafiiggiabGreatDoor.K
end
