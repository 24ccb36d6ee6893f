/- ChannelNarrow: the walk of the law, and what it comes to. -/
import Derived.Test.YtdmdahafiiggiaaGreatDoorB5
set_option linter.unusedVariables false
set_option linter.unusedSimpArgs false
section
namespace Go.Proofs.YtdmdahafiiggiaaGreatDoor.K
open Go.RowKit Go.Proofs.YtdmdahafiiggiaaGreatDoorW.PrintWords Go.Proofs.YtdmdahafiiggiaaGreatDoorW.PrintLast Go.Proofs.YtdmdahafiiggiaaGreatDoorW.PrintMore
def quinarialaw02_known.f (_ : Nat) : Option Bool := some true
theorem quinarialaw02_known.calls (k : Nat) (r : Bool) (w : World) (hT : TabW w) (h : quinarialaw02_known.f k  = some r) :
    Calls Tryz.prog 17 #[] w fun e w' => e = .returned (.bool r) ∧ Below w.heap.size w w' := by
  obtain rfl : true = r := Option.some.inj h
  exact known_any w hT
end Go.Proofs.YtdmdahafiiggiaaGreatDoor.K
end
section
namespace Go.Proofs.YtdmdahafiiggiaaGreatDoor.K
open Go.RowKit Go.Proofs.YtdmdahafiiggiaaGreatDoorW.PrintWords Go.Proofs.YtdmdahafiiggiaaGreatDoorW.PrintLast Go.Proofs.YtdmdahafiiggiaaGreatDoorW.PrintMore
attribute [local go_sem] max2_int min2_int max_two min_two max_three min_three max_four min_four
set_option linter.unusedVariables false
set_option linter.unusedSimpArgs false
def quinariaref02_Ages.l0 : Nat → List Int → Int → List Int → List (S32) → Option (Bool)
 | 0, _, _, _, _ => none
 | k + 1, x1, x5, x622000, x622001 => if x5 < (x1.length : Int) then (if 0 ≤ x5 then ((quinariaref02_Age.f (rd x1 x5)).bind fun t623 => (if t623 = true then (quinariaref02_Ages.l0 k x1 (wrap64 (x5 + 1)) x622000 x622001) else (some false))) else (none)) else (some ((x1.length : Int) == (x622001.length : Int)))
def quinariaref02_Ages.f (k : Nat) (l0_0 : List Int) (l0_1 : List (S32)) (l1 : List Int) : Option (Bool) := quinariaref02_Ages.l0 k l1 0 l0_0 l0_1
set_option maxHeartbeats 8000000 in
set_option maxRecDepth 100000 in
theorem quinariaref02_Ages.calls (k : Nat) (A0_0 : Option Addr) (c0_0 : Nat) (l0_0 : List Int) (A0_1 : Option Addr) (c0_1 : Nat) (l0_1 : List (S32)) (A1 : Option Addr) (c1 : Nat) (l1 : List Int) (r : Bool) (w : World) (hr0_0 : Kd.C (Kd.int .i64) w A0_0 l0_0.length l0_0) (hc0_0 : l0_0.length ≤ c0_0) (hr0_1 : Kd.C k32 w A0_1 l0_1.length l0_1) (hc0_1 : l0_1.length ≤ c0_1) (hr1 : Kd.C (Kd.int .i64) w A1 l1.length l1) (hc1 : l1.length ≤ c1) (h : quinariaref02_Ages.f k l0_0 l0_1 l1 = some r) :
  Calls Tryz.prog 22 #[.agg #[.slice A0_0 l0_0.length c0_0, .slice A0_1 l0_1.length c0_1], .slice A1 l1.length c1] w fun e w' => e = .returned (.bool r) ∧ Below w.heap.size w w' := by
 have hu25 := Tryz.underlying25
 have HR0_0 := Aside0.mk hr0_0
 have HC0_0 := Aside0.mk hc0_0
 clear hr0_0 hc0_0
 have HR0_1 := Aside0.mk hr0_1
 have HC0_1 := Aside0.mk hc0_1
 clear hr0_1 hc0_1
 have HR1 := Aside0.mk hr1
 have HC1 := Aside0.mk hc1
 clear hr1 hc1
 have HB := Aside0.mk (Below.refl w.heap.size w)
 have H : (quinariaref02_Ages.l0 k l1 0 l0_0 l0_1) = some r := h
 clear h
 have H' := Aside0.mk H
 clear H
 go_enter Tryz.func22, Tryz.ntmps22
 go_wp2_with (first | ((with_reducible refine gate_dst (N := 2) rfl ?_); refine bxe 2 #[.slice A0_0 l0_0.length c0_0, .slice A0_1 l0_1.length c0_1] 25 ?_; intro gb621 hg w3 hbox hb; have n0_ := Aside0.mk (below_step uB hb); have n1_ := Aside0.mk (hbox); have n2_ := gw hg; have n3_ := gw hg; clear HB; have HB := n0_; have BK621 := n1_; have GW621 := n2_; have GE621 := n3_; clear n0_ n1_ n2_ n3_; clear hb hbox hg))
 go_loopg [5] k (fun kq v5 w' => ∃ (x5_1 : Int), v5 = .int .i64 x5_1 ∧ Aside0 (quinariaref02_Ages.l0 kq l1 x5_1 l0_0 l0_1 = some r) ∧ Aside0 (kq ≤ k) ∧ Aside0 (w'.heap[gb621]? = some (.cells #[(.slice A0_0 l0_0.length c0_0), (.slice A0_1 l0_1.length c0_1)] 25 (0, 0))) ∧ Aside0 (Below w.heap.size w w'))
 case atStart => exact ⟨(0), u0, H', ⟨Nat.le_refl _⟩, ⟨uK BK621.out⟩, ⟨uB⟩⟩
 case round =>
  clear H'
  try clear c1; try clear c2; try clear p2
  obtain ⟨x5_1, rfl, HA, HK1, BK621, HB⟩ := hrel
  cases gk with
  | zero => exact absurd HA.out (by simp [quinariaref02_Ages.l0])
  | succ k1 =>
   have H := HA.out
   clear HA
   simp only [quinariaref02_Ages.l0] at H
   by_cases c4 : x5_1 < (l1.length : Int)
   ·rw [if_pos c4] at H
    replace c4 := decide_eq_true c4
    obtain ⟨c5, H⟩ := ifs H
    replace c5 := decide_eq_true c5
    replace H := Option.bind_eq_some_iff.mp H
    obtain ⟨t623, A60, H⟩ := H
    replace H : (if t623 = true then (quinariaref02_Ages.l0 k1 l1 (wrap64 (x5_1 + 1)) l0_0 l0_1) else (some false)) = some r := H
    have A6 := Aside0.mk A60
    clear A60
    by_cases c7 : t623 = true
    ·subst c7
     have H1 : (quinariaref02_Ages.l0 k1 l1 (wrap64 (x5_1 + 1)) l0_0 l0_1) = some r := by rw [if_pos rfl] at H; exact H
     clear H
     have H := H1
     clear H1
     have H' := Aside0.mk H
     clear H
     have p622 : 0 ≤ (x5_1 : Int) := of_decide_eq_true (by first | (with_reducible assumption) | assumption)
     have q622 : x5_1 < (l1.length : Int) := of_decide_eq_true (by first | (with_reducible assumption) | assumption)
     obtain ⟨ad622, e622, hx622_0⟩ := Kd.at_int HR1.out x5_1 p622 q622
     cases e622
     replace hx622_0 := hcell HB.out hx622_0
     replace p622 := eq_true p622
     replace q622 := eq_true q622
     go_wp2_with (first | ((with_reducible refine gate_callee (f := 16) rfl ?_); refine goesL_ (some 16) rfl rfl Tryz.func16 (by kernel_rfl) rfl #[.int .i64 (rd l1 x5_1)] rfl uM ?_; (with_reducible refine (quinariaref02_Age.calls (rd l1 x5_1) true _ A6.out).mono ?_); rintro e w' ⟨rfl, ⟨nd, rfl⟩⟩; refine ⟨_, rfl, ?_⟩))
     go_roundg k1
     case measure => have := HK1.out; omega
     case rel => exact ⟨(wrap64 (x5_1 + 1)), u0, H', ⟨by have := HK1.out; omega⟩, ⟨uK BK621.out⟩, ⟨uB⟩⟩
    ·replace c7 := Bool.eq_false_iff.mpr c7
     subst c7
     have H1 : (some false) = some r := by rw [if_neg (show ¬ (false = true) by decide)] at H; exact H
     clear H
     have H := H1
     clear H1
     obtain rfl := Option.some.inj H
     have p622 : 0 ≤ (x5_1 : Int) := of_decide_eq_true (by first | (with_reducible assumption) | assumption)
     have q622 : x5_1 < (l1.length : Int) := of_decide_eq_true (by first | (with_reducible assumption) | assumption)
     obtain ⟨ad622, e622, hx622_0⟩ := Kd.at_int HR1.out x5_1 p622 q622
     cases e622
     replace hx622_0 := hcell HB.out hx622_0
     replace p622 := eq_true p622
     replace q622 := eq_true q622
     go_wp2_with (first | ((with_reducible refine gate_callee (f := 16) rfl ?_); refine goesL_ (some 16) rfl rfl Tryz.func16 (by kernel_rfl) rfl #[.int .i64 (rd l1 x5_1)] rfl uM ?_; (with_reducible refine (quinariaref02_Age.calls (rd l1 x5_1) false _ A6.out).mono ?_); rintro e w' ⟨rfl, ⟨nd, rfl⟩⟩; refine ⟨_, rfl, ?_⟩))
     go_ret
     exact ⟨uE, uB⟩
   ·rw [if_neg c4] at H
    replace c4 := decide_eq_false c4
    obtain rfl := Option.some.inj H
    obtain ⟨hcz8_0, hcz8_1⟩ := cz2 BK621.out
    obtain ⟨hfz8_0, hfz8_1⟩ := fz2 BK621.out
    go_wp2
    go_ret
    exact ⟨uE, uB⟩
end Go.Proofs.YtdmdahafiiggiaaGreatDoor.K
end
section
namespace Go.Proofs.YtdmdahafiiggiaaGreatDoor.K
open Go.RowKit Go.Proofs.YtdmdahafiiggiaaGreatDoorW.PrintWords Go.Proofs.YtdmdahafiiggiaaGreatDoorW.PrintLast Go.Proofs.YtdmdahafiiggiaaGreatDoorW.PrintMore
attribute [local go_sem] max2_int min2_int max_two min_two max_three min_three max_four min_four
set_option linter.unusedVariables false
set_option linter.unusedSimpArgs false
def quinarialaw02_rated.l0 : Nat → List Int → Int → List Int → List (S32) → Option (Bool)
 | 0, _, _, _, _ => none
 | k + 1, x1, x5, x669000, x669001 => if x5 < (x1.length : Int) then (if 0 ≤ x5 then (if x5 < (x669001.length : Int) then (if (rd x1 x5) < ((rd_T32 x669001 x5).f3.f0) then (some false) else (if (rd x1 x5) > ((rd_T32 x669001 x5).f3.f1) then (some false) else (quinarialaw02_rated.l0 k x1 (wrap64 (x5 + 1)) x669000 x669001))) else (none)) else (none)) else (some true)
def quinarialaw02_rated.f (k : Nat) (l0_0 : List Int) (l0_1 : List (S32)) (l1 : List Int) : Option (Bool) := if (l1.length : Int) = (l0_1.length : Int) then (quinarialaw02_rated.l0 k l1 0 l0_0 l0_1) else (some false)
set_option maxHeartbeats 8000000 in
set_option maxRecDepth 100000 in
theorem quinarialaw02_rated.calls (k : Nat) (A0_0 : Option Addr) (c0_0 : Nat) (l0_0 : List Int) (A0_1 : Option Addr) (c0_1 : Nat) (l0_1 : List (S32)) (A1 : Option Addr) (c1 : Nat) (l1 : List Int) (r : Bool) (w : World) (hr0_0 : Kd.C (Kd.int .i64) w A0_0 l0_0.length l0_0) (hc0_0 : l0_0.length ≤ c0_0) (hr0_1 : Kd.C k32 w A0_1 l0_1.length l0_1) (hc0_1 : l0_1.length ≤ c0_1) (hr1 : Kd.C (Kd.int .i64) w A1 l1.length l1) (hc1 : l1.length ≤ c1) (h : quinarialaw02_rated.f k l0_0 l0_1 l1 = some r) :
  Calls Tryz.prog 26 #[.agg #[.slice A0_0 l0_0.length c0_0, .slice A0_1 l0_1.length c0_1], .slice A1 l1.length c1] w fun e w' => e = .returned (.bool r) ∧ Below w.heap.size w w' := by
 have hu25 := Tryz.underlying25
 have HR0_0 := Aside0.mk hr0_0
 have HC0_0 := Aside0.mk hc0_0
 clear hr0_0 hc0_0
 have HR0_1 := Aside0.mk hr0_1
 have HC0_1 := Aside0.mk hc0_1
 clear hr0_1 hc0_1
 have HR1 := Aside0.mk hr1
 have HC1 := Aside0.mk hc1
 clear hr1 hc1
 have HB := Aside0.mk (Below.refl w.heap.size w)
 have H : (if (l1.length : Int) = (l0_1.length : Int) then (quinarialaw02_rated.l0 k l1 0 l0_0 l0_1) else (some false)) = some r := h
 clear h
 by_cases c3 : (l1.length : Int) = (l0_1.length : Int)
 ·rw [if_pos c3] at H
  have c3b0 : ((l1.length : Int) == (l0_1.length : Int)) = true := beq_iff_eq.mpr c3
  have c3b1 : ((l1.length : Int) != (l0_1.length : Int)) = false := bne_eq_false_iff_eq.mpr c3
  have c3b2 : (l1.length == l0_1.length) = true := by first | simpa using c3 | (simp at c3 ⊢; omega)
  clear c3
  have H' := Aside0.mk H
  clear H
  go_enter Tryz.func26, Tryz.ntmps26
  go_wp2_with (first | ((with_reducible refine gate_dst (N := 2) rfl ?_); refine bxe 2 #[.slice A0_0 l0_0.length c0_0, .slice A0_1 l0_1.length c0_1] 25 ?_; intro gb668 hg w4 hbox hb; have n0_ := Aside0.mk (below_step uB hb); have n1_ := Aside0.mk (hbox); have n2_ := gw hg; have n3_ := gw hg; clear HB; have HB := n0_; have BK668 := n1_; have GW668 := n2_; have GE668 := n3_; clear n0_ n1_ n2_ n3_; clear hb hbox hg; obtain ⟨hcz5_0, hcz5_1⟩ := cz2 BK668.out; obtain ⟨hfz5_0, hfz5_1⟩ := fz2 BK668.out))
  repeat (go_quiet (first | ((with_reducible refine gate_dst (N := 2) rfl ?_); refine bxe 2 #[.slice A0_0 l0_0.length c0_0, .slice A0_1 l0_1.length c0_1] 25 ?_; intro gb668 hg w4 hbox hb; have n0_ := Aside0.mk (below_step uB hb); have n1_ := Aside0.mk (hbox); have n2_ := gw hg; have n3_ := gw hg; clear HB; have HB := n0_; have BK668 := n1_; have GW668 := n2_; have GE668 := n3_; clear n0_ n1_ n2_ n3_; clear hb hbox hg; obtain ⟨hcz5_0, hcz5_1⟩ := cz2 BK668.out; obtain ⟨hfz5_0, hfz5_1⟩ := fz2 BK668.out)); try go_wp2_with (first | ((with_reducible refine gate_dst (N := 2) rfl ?_); refine bxe 2 #[.slice A0_0 l0_0.length c0_0, .slice A0_1 l0_1.length c0_1] 25 ?_; intro gb668 hg w4 hbox hb; have n0_ := Aside0.mk (below_step uB hb); have n1_ := Aside0.mk (hbox); have n2_ := gw hg; have n3_ := gw hg; clear HB; have HB := n0_; have BK668 := n1_; have GW668 := n2_; have GE668 := n3_; clear n0_ n1_ n2_ n3_; clear hb hbox hg; obtain ⟨hcz5_0, hcz5_1⟩ := cz2 BK668.out; obtain ⟨hfz5_0, hfz5_1⟩ := fz2 BK668.out)))
  go_loopg [5] k (fun kq v5 w' => ∃ (x5_1 : Int), v5 = .int .i64 x5_1 ∧ Aside0 (quinarialaw02_rated.l0 kq l1 x5_1 l0_0 l0_1 = some r) ∧ Aside0 (kq ≤ k) ∧ Aside0 (w'.heap[gb668]? = some (.cells #[(.slice A0_0 l0_0.length c0_0), (.slice A0_1 l0_1.length c0_1)] 25 (0, 0))) ∧ Aside0 (Below w.heap.size w w'))
  case atStart => exact ⟨(0), u0, H', ⟨Nat.le_refl _⟩, ⟨uK BK668.out⟩, ⟨uB⟩⟩
  case round =>
   clear H'
   try clear c1; try clear c2; try clear p2; try clear c3; try clear c3b0; try clear c3b1; try clear c3b2; try clear hcz5_0; try clear hcz5_1; try clear hfz5_0; try clear hfz5_1
   obtain ⟨x5_1, rfl, HA, HK1, BK668, HB⟩ := hrel
   cases gk with
   | zero => exact absurd HA.out (by simp [quinarialaw02_rated.l0])
   | succ k1 =>
    have H := HA.out
    clear HA
    simp only [quinarialaw02_rated.l0] at H
    by_cases c6 : x5_1 < (l1.length : Int)
    ·rw [if_pos c6] at H
     replace c6 := decide_eq_true c6
     obtain ⟨c7, H⟩ := ifs H
     replace c7 := decide_eq_true c7
     obtain ⟨c8, H⟩ := ifs H
     replace c8 := decide_eq_true c8
     by_cases c9 : (rd l1 x5_1) < ((rd_T32 l0_1 x5_1).f3.f0)
     ·rw [if_pos c9] at H
      replace c9 := decide_eq_true c9
      obtain rfl := Option.some.inj H
      have p669 : 0 ≤ (x5_1 : Int) := of_decide_eq_true (by first | (with_reducible assumption) | assumption)
      have q669 : x5_1 < (l1.length : Int) := of_decide_eq_true (by first | (with_reducible assumption) | assumption)
      obtain ⟨ad669, e669, hx669_0⟩ := Kd.at_int HR1.out x5_1 p669 q669
      cases e669
      replace hx669_0 := hcell HB.out hx669_0
      replace p669 := eq_true p669
      replace q669 := eq_true q669
      obtain ⟨hcz10_0, hcz10_1⟩ := cz2 BK668.out
      obtain ⟨hfz10_0, hfz10_1⟩ := fz2 BK668.out
      have p670 : 0 ≤ (x5_1 : Int) := of_decide_eq_true (by first | (with_reducible assumption) | assumption)
      have q670 : x5_1 < (l0_1.length : Int) := of_decide_eq_true (by first | (with_reducible assumption) | assumption)
      obtain ⟨ad670, e670, hx670_0, hx670_1, hx670_2, hx670_3, hx670_4⟩ := at_T32 HR0_1.out x5_1 p670 q670
      cases e670
      replace hx670_0 := hcell HB.out hx670_0
      replace hx670_1 := hcell HB.out hx670_1
      replace hx670_2 := hcell HB.out hx670_2
      replace hx670_3 := hcell HB.out hx670_3
      replace hx670_4 := hcell HB.out hx670_4
      replace p670 := eq_true p670
      replace q670 := eq_true q670
      go_wp2
      repeat (go_quiet (fail); try go_wp2)
      go_ret
      exact ⟨uE, uB⟩
     ·rw [if_neg c9] at H
      replace c9 := decide_eq_false c9
      by_cases c11 : (rd l1 x5_1) > ((rd_T32 l0_1 x5_1).f3.f1)
      ·rw [if_pos c11] at H
       replace c11 := decide_eq_true c11
       obtain rfl := Option.some.inj H
       have p669 : 0 ≤ (x5_1 : Int) := of_decide_eq_true (by first | (with_reducible assumption) | assumption)
       have q669 : x5_1 < (l1.length : Int) := of_decide_eq_true (by first | (with_reducible assumption) | assumption)
       obtain ⟨ad669, e669, hx669_0⟩ := Kd.at_int HR1.out x5_1 p669 q669
       cases e669
       replace hx669_0 := hcell HB.out hx669_0
       replace p669 := eq_true p669
       replace q669 := eq_true q669
       obtain ⟨hcz12_0, hcz12_1⟩ := cz2 BK668.out
       obtain ⟨hfz12_0, hfz12_1⟩ := fz2 BK668.out
       have p670 : 0 ≤ (x5_1 : Int) := of_decide_eq_true (by first | (with_reducible assumption) | assumption)
       have q670 : x5_1 < (l0_1.length : Int) := of_decide_eq_true (by first | (with_reducible assumption) | assumption)
       obtain ⟨ad670, e670, hx670_0, hx670_1, hx670_2, hx670_3, hx670_4⟩ := at_T32 HR0_1.out x5_1 p670 q670
       cases e670
       replace hx670_0 := hcell HB.out hx670_0
       replace hx670_1 := hcell HB.out hx670_1
       replace hx670_2 := hcell HB.out hx670_2
       replace hx670_3 := hcell HB.out hx670_3
       replace hx670_4 := hcell HB.out hx670_4
       replace p670 := eq_true p670
       replace q670 := eq_true q670
       have p671 : 0 ≤ (x5_1 : Int) := of_decide_eq_true (by first | (with_reducible assumption) | assumption)
       have q671 : x5_1 < (l1.length : Int) := of_decide_eq_true (by first | (with_reducible assumption) | assumption)
       obtain ⟨ad671, e671, hx671_0⟩ := Kd.at_int HR1.out x5_1 p671 q671
       obtain rfl : ad669 = ad671 := (by injection e671)
       replace hx671_0 := hcell HB.out hx671_0
       replace p671 := eq_true p671
       replace q671 := eq_true q671
       have p672 : 0 ≤ (x5_1 : Int) := of_decide_eq_true (by first | (with_reducible assumption) | assumption)
       have q672 : x5_1 < (l0_1.length : Int) := of_decide_eq_true (by first | (with_reducible assumption) | assumption)
       obtain ⟨ad672, e672, hx672_0, hx672_1, hx672_2, hx672_3, hx672_4⟩ := at_T32 HR0_1.out x5_1 p672 q672
       obtain rfl : ad670 = ad672 := (by injection e672)
       replace hx672_0 := hcell HB.out hx672_0
       replace hx672_1 := hcell HB.out hx672_1
       replace hx672_2 := hcell HB.out hx672_2
       replace hx672_3 := hcell HB.out hx672_3
       replace hx672_4 := hcell HB.out hx672_4
       replace p672 := eq_true p672
       replace q672 := eq_true q672
       go_wp2
       repeat (go_quiet (fail); try go_wp2)
       go_ret
       exact ⟨uE, uB⟩
      ·rw [if_neg c11] at H
       replace c11 := decide_eq_false c11
       have H' := Aside0.mk H
       clear H
       have p669 : 0 ≤ (x5_1 : Int) := of_decide_eq_true (by first | (with_reducible assumption) | assumption)
       have q669 : x5_1 < (l1.length : Int) := of_decide_eq_true (by first | (with_reducible assumption) | assumption)
       obtain ⟨ad669, e669, hx669_0⟩ := Kd.at_int HR1.out x5_1 p669 q669
       cases e669
       replace hx669_0 := hcell HB.out hx669_0
       replace p669 := eq_true p669
       replace q669 := eq_true q669
       obtain ⟨hcz13_0, hcz13_1⟩ := cz2 BK668.out
       obtain ⟨hfz13_0, hfz13_1⟩ := fz2 BK668.out
       have p670 : 0 ≤ (x5_1 : Int) := of_decide_eq_true (by first | (with_reducible assumption) | assumption)
       have q670 : x5_1 < (l0_1.length : Int) := of_decide_eq_true (by first | (with_reducible assumption) | assumption)
       obtain ⟨ad670, e670, hx670_0, hx670_1, hx670_2, hx670_3, hx670_4⟩ := at_T32 HR0_1.out x5_1 p670 q670
       cases e670
       replace hx670_0 := hcell HB.out hx670_0
       replace hx670_1 := hcell HB.out hx670_1
       replace hx670_2 := hcell HB.out hx670_2
       replace hx670_3 := hcell HB.out hx670_3
       replace hx670_4 := hcell HB.out hx670_4
       replace p670 := eq_true p670
       replace q670 := eq_true q670
       have p671 : 0 ≤ (x5_1 : Int) := of_decide_eq_true (by first | (with_reducible assumption) | assumption)
       have q671 : x5_1 < (l1.length : Int) := of_decide_eq_true (by first | (with_reducible assumption) | assumption)
       obtain ⟨ad671, e671, hx671_0⟩ := Kd.at_int HR1.out x5_1 p671 q671
       obtain rfl : ad669 = ad671 := (by injection e671)
       replace hx671_0 := hcell HB.out hx671_0
       replace p671 := eq_true p671
       replace q671 := eq_true q671
       have p672 : 0 ≤ (x5_1 : Int) := of_decide_eq_true (by first | (with_reducible assumption) | assumption)
       have q672 : x5_1 < (l0_1.length : Int) := of_decide_eq_true (by first | (with_reducible assumption) | assumption)
       obtain ⟨ad672, e672, hx672_0, hx672_1, hx672_2, hx672_3, hx672_4⟩ := at_T32 HR0_1.out x5_1 p672 q672
       obtain rfl : ad670 = ad672 := (by injection e672)
       replace hx672_0 := hcell HB.out hx672_0
       replace hx672_1 := hcell HB.out hx672_1
       replace hx672_2 := hcell HB.out hx672_2
       replace hx672_3 := hcell HB.out hx672_3
       replace hx672_4 := hcell HB.out hx672_4
       replace p672 := eq_true p672
       replace q672 := eq_true q672
       go_wp2
       repeat (go_quiet (fail); try go_wp2)
       go_roundg k1
       case measure => have := HK1.out; omega
       case rel => exact ⟨(wrap64 (x5_1 + 1)), u0, H', ⟨by have := HK1.out; omega⟩, ⟨uK BK668.out⟩, ⟨uB⟩⟩
    ·rw [if_neg c6] at H
     replace c6 := decide_eq_false c6
     obtain rfl := Option.some.inj H
     go_wp2
     repeat (go_quiet (fail); try go_wp2)
     go_ret
     exact ⟨uE, uB⟩
 ·rw [if_neg c3] at H
  have c3b0 : ((l1.length : Int) == (l0_1.length : Int)) = false := beq_eq_false_iff_ne.mpr c3
  have c3b1 : ((l1.length : Int) != (l0_1.length : Int)) = true := bne_iff_ne.mpr c3
  have c3b2 : (l1.length == l0_1.length) = false := by first | simpa using c3 | (simp at c3 ⊢; omega)
  obtain rfl := Option.some.inj H
  go_enter Tryz.func26, Tryz.ntmps26
  go_wp2_with (first | ((with_reducible refine gate_dst (N := 2) rfl ?_); refine bxe 2 #[.slice A0_0 l0_0.length c0_0, .slice A0_1 l0_1.length c0_1] 25 ?_; intro gb668 hg w14 hbox hb; have n0_ := Aside0.mk (below_step uB hb); have n1_ := Aside0.mk (hbox); have n2_ := gw hg; have n3_ := gw hg; clear HB; have HB := n0_; have BK668 := n1_; have GW668 := n2_; have GE668 := n3_; clear n0_ n1_ n2_ n3_; clear hb hbox hg; obtain ⟨hcz15_0, hcz15_1⟩ := cz2 BK668.out; obtain ⟨hfz15_0, hfz15_1⟩ := fz2 BK668.out))
  repeat (go_quiet (first | ((with_reducible refine gate_dst (N := 2) rfl ?_); refine bxe 2 #[.slice A0_0 l0_0.length c0_0, .slice A0_1 l0_1.length c0_1] 25 ?_; intro gb668 hg w14 hbox hb; have n0_ := Aside0.mk (below_step uB hb); have n1_ := Aside0.mk (hbox); have n2_ := gw hg; have n3_ := gw hg; clear HB; have HB := n0_; have BK668 := n1_; have GW668 := n2_; have GE668 := n3_; clear n0_ n1_ n2_ n3_; clear hb hbox hg; obtain ⟨hcz15_0, hcz15_1⟩ := cz2 BK668.out; obtain ⟨hfz15_0, hfz15_1⟩ := fz2 BK668.out)); try go_wp2_with (first | ((with_reducible refine gate_dst (N := 2) rfl ?_); refine bxe 2 #[.slice A0_0 l0_0.length c0_0, .slice A0_1 l0_1.length c0_1] 25 ?_; intro gb668 hg w14 hbox hb; have n0_ := Aside0.mk (below_step uB hb); have n1_ := Aside0.mk (hbox); have n2_ := gw hg; have n3_ := gw hg; clear HB; have HB := n0_; have BK668 := n1_; have GW668 := n2_; have GE668 := n3_; clear n0_ n1_ n2_ n3_; clear hb hbox hg; obtain ⟨hcz15_0, hcz15_1⟩ := cz2 BK668.out; obtain ⟨hfz15_0, hfz15_1⟩ := fz2 BK668.out)))
  go_ret
  exact ⟨uE, uB⟩
end Go.Proofs.YtdmdahafiiggiaaGreatDoor.K
end
section
namespace Go.Proofs.YtdmdahafiiggiaaGreatDoor.K
open Go.RowKit Go.Proofs.YtdmdahafiiggiaaGreatDoorW.PrintWords Go.Proofs.YtdmdahafiiggiaaGreatDoorW.PrintLast Go.Proofs.YtdmdahafiiggiaaGreatDoorW.PrintMore
attribute [local go_sem] max2_int min2_int max_two min_two max_three min_three max_four min_four
set_option linter.unusedVariables false
set_option linter.unusedSimpArgs false
mutual
def quinarialaw02_ChannelNarrow.j0 : Nat → List Int → List Int → Bool → List Int → List (S32) → Option (Bool)
 | 0, _, _, _, _, _ => none
 | k + 1, x1, x2, x42, x674000, x674001 => if x42 = true then ((quinarialaw02_known.f k).bind fun t678 => (some t678)) else ((channel_Line.f k x674000 x674001 x1).bind fun bt679 => ((channel_Narrowest.f k x674000 x674001 x1).bind fun bt683 => (if bt679.2.2 = 0 then (if bt683.2 = 0 then (quinarialaw02_ChannelNarrow.j1 k x1 x2 bt683.1 (decide ((bt683.1.length : Int) > (x674001.length : Int))) x674000 x674001 bt679.1 bt679.2.1) else (quinarialaw02_ChannelNarrow.j1 k x1 x2 bt683.1 true x674000 x674001 bt679.1 bt679.2.1)) else (quinarialaw02_ChannelNarrow.j1 k x1 x2 bt683.1 true x674000 x674001 bt679.1 bt679.2.1))))
def quinarialaw02_ChannelNarrow.j1 : Nat → List Int → List Int → List Int → Bool → List Int → List (S32) → Int → Int → Option (Bool)
 | 0, _, _, _, _, _, _, _, _ => none
 | k + 1, x1, x2, x9, x69, x674000, x674001, x683000, x683001 => if x69 = true then (some false) else (quinarialaw02_ChannelNarrow.l0 k x1 x2 x9 10000001 0 x674000 x674001 x683000 x683001)
def quinarialaw02_ChannelNarrow.l0 : Nat → List Int → List Int → List Int → Int → Int → List Int → List (S32) → Int → Int → Option (Bool)
 | 0, _, _, _, _, _, _, _, _, _ => none
 | k + 1, x1, x2, x9, x11, x12, x674000, x674001, x683000, x683001 => if x12 < (x2.length : Int) then (if 0 ≤ x12 then (if x12 < (x1.length : Int) then ((quinariaref02_Cups.f x674000 x674001 x12 (rd x1 x12) (rd x2 x12)).bind fun t689 => (quinarialaw02_ChannelNarrow.l0 k x1 x2 x9 (mn x11 t689) (wrap64 (x12 + 1)) x674000 x674001 x683000 x683001)) else (none)) else (none)) else (if x11 < x683000 then (quinarialaw02_ChannelNarrow.j3 k x1 x2 x9 x11 true x674000 x674001) else (quinarialaw02_ChannelNarrow.j3 k x1 x2 x9 x11 (decide (x11 > x683001)) x674000 x674001))
def quinarialaw02_ChannelNarrow.j3 : Nat → List Int → List Int → List Int → Int → Bool → List Int → List (S32) → Option (Bool)
 | 0, _, _, _, _, _, _, _ => none
 | k + 1, x1, x2, x9, x11, x98, x674000, x674001 => if x98 = true then (some false) else (if 0 ≤ (x674001.length : Int) then (if ((x674001.length : Int) : Int).toNat ≤ 281474976710656 then (quinarialaw02_ChannelNarrow.l1 k x1 x2 x9 x11 (List.replicate ((x674001.length : Int) : Int).toNat false) 0 x674000 x674001) else (none)) else (none))
def quinarialaw02_ChannelNarrow.l1 : Nat → List Int → List Int → List Int → Int → List Bool → Int → List Int → List (S32) → Option (Bool)
 | 0, _, _, _, _, _, _, _, _ => none
 | k + 1, x1, x2, x9, x11, x13, x14, x674000, x674001 => if x14 < (x9.length : Int) then (if 0 ≤ x14 then ((quinariaref02_Number.f x674000 x674001 (rd x9 x14)).bind fun t694 => (if t694 = true then (if x14 > 0 then (if 0 ≤ (wrap64 (x14 - 1)) then (if (wrap64 (x14 - 1)) < (x9.length : Int) then (quinarialaw02_ChannelNarrow.j5 k x1 x2 x9 x11 x13 x14 (decide ((rd x9 x14) ≤ (rd x9 (wrap64 (x14 - 1))))) x674000 x674001) else (none)) else (none)) else (quinarialaw02_ChannelNarrow.j5 k x1 x2 x9 x11 x13 x14 false x674000 x674001)) else (quinarialaw02_ChannelNarrow.j5 k x1 x2 x9 x11 x13 x14 true x674000 x674001))) else (none)) else (quinarialaw02_ChannelNarrow.l3 k x1 x2 x11 x13 0 x674000 x674001)
def quinarialaw02_ChannelNarrow.j5 : Nat → List Int → List Int → List Int → Int → List Bool → Int → Bool → List Int → List (S32) → Option (Bool)
 | 0, _, _, _, _, _, _, _, _, _ => none
 | k + 1, x1, x2, x9, x11, x13, x14, x131, x674000, x674001 => if x131 = true then (some false) else (if 0 ≤ x14 then (if x14 < (x9.length : Int) then (if 0 ≤ (rd x9 x14) then (if (rd x9 x14) < (x13.length : Int) then (if (rd x9 x14) < (x1.length : Int) then (if (rd x9 x14) < (x674001.length : Int) then ((quinariaref02_Cups.f x674000 x674001 (rd x9 x14) (rd x1 (rd x9 x14)) ((rd_T32 x674001 (rd x9 x14)).f3.f1)).bind fun t704 => (quinarialaw02_ChannelNarrow.l2 k x1 x2 x9 x11 (x13.set ((rd x9 x14) : Int).toNat true) x14 t704 0 x674000 x674001)) else (none)) else (none)) else (none)) else (none)) else (none)) else (none))
def quinarialaw02_ChannelNarrow.l2 : Nat → List Int → List Int → List Int → Int → List Bool → Int → Int → Int → List Int → List (S32) → Option (Bool)
 | 0, _, _, _, _, _, _, _, _, _, _ => none
 | k + 1, x1, x2, x9, x11, x13, x14, x15, x16, x674000, x674001 => if x16 < (x674001.length : Int) then (if 0 ≤ x14 then (if x14 < (x9.length : Int) then (if x16 = (rd x9 x14) then (quinarialaw02_ChannelNarrow.l2 k x1 x2 x9 x11 x13 x14 x15 (wrap64 (x16 + 1)) x674000 x674001) else (if 0 ≤ x16 then (if x16 < (x1.length : Int) then ((quinariaref02_Cups.f x674000 x674001 x16 (rd x1 x16) ((rd_T32 x674001 x16).f3.f0)).bind fun t708 => (if t708 < x15 then (some false) else (quinarialaw02_ChannelNarrow.l2 k x1 x2 x9 x11 x13 x14 x15 (wrap64 (x16 + 1)) x674000 x674001))) else (none)) else (none))) else (none)) else (none)) else (quinarialaw02_ChannelNarrow.l1 k x1 x2 x9 x11 x13 (wrap64 (x14 + 1)) x674000 x674001)
def quinarialaw02_ChannelNarrow.l3 : Nat → List Int → List Int → Int → List Bool → Int → List Int → List (S32) → Option (Bool)
 | 0, _, _, _, _, _, _, _ => none
 | k + 1, x1, x2, x11, x13, x17, x674000, x674001 => if x17 < (x2.length : Int) then (if 0 ≤ x17 then (if x17 < (x1.length : Int) then ((quinariaref02_Cups.f x674000 x674001 x17 (rd x1 x17) (rd x2 x17)).bind fun t711 => (if t711 = x11 then (if x17 < (x13.length : Int) then (if rdOf false x13 x17 = true then (quinarialaw02_ChannelNarrow.l3 k x1 x2 x11 x13 (wrap64 (x17 + 1)) x674000 x674001) else (some false)) else (none)) else (quinarialaw02_ChannelNarrow.l3 k x1 x2 x11 x13 (wrap64 (x17 + 1)) x674000 x674001))) else (none)) else (none)) else ((quinarialaw02_known.f k).bind fun t713 => (some t713))
end
def quinarialaw02_ChannelNarrow.f (k : Nat) (l0_0 : List Int) (l0_1 : List (S32)) (l1 : List Int) (l2 : List Int) : Option (Bool) := (quinarialaw02_short.f l0_0 l0_1).bind fun t674 => (if t674 = true then (if (l1.length : Int) > 10 then (quinarialaw02_ChannelNarrow.j0 k l1 l2 true l0_0 l0_1) else ((quinariaref02_Right.f k l0_0 l0_1).bind fun t675 => (if t675 = true then ((quinariaref02_Ages.f k l0_0 l0_1 l1).bind fun t676 => (if t676 = true then ((quinarialaw02_rated.f k l0_0 l0_1 l2).bind fun t677 => (quinarialaw02_ChannelNarrow.j0 k l1 l2 (!t677) l0_0 l0_1)) else (quinarialaw02_ChannelNarrow.j0 k l1 l2 true l0_0 l0_1))) else (quinarialaw02_ChannelNarrow.j0 k l1 l2 true l0_0 l0_1)))) else (quinarialaw02_ChannelNarrow.j0 k l1 l2 true l0_0 l0_1))
def quinarialaw02_ChannelNarrow.T11 : Bool × List (List Nat × List Nat) := (true, [([], []), ([], []), ([], []), ([], []), ([], []), ([3, 4], [3, 4]), ([5], [5]), ([], []), ([], []), ([7, 8], [7, 8]), ([9], [9]), ([1, 2, 6, 10], [1, 2, 6, 10]), ([0, 11], [0, 11]), ([12, 11, 0, 1, 2, 3, 4, 5, 6, 7, 8, 9, 10, 11, 12], [0, 12])])
def quinarialaw02_ChannelNarrow.B11 : List Nat := [0, 0, 0, 0, 0, 24, 56, 0, 0, 384, 896, 2046, 4095, 8191]
theorem quinarialaw02_ChannelNarrow.tab11 : rtab .any (opsOf Tryz.f5 11) = quinarialaw02_ChannelNarrow.T11 := by kernel_rfl
theorem quinarialaw02_ChannelNarrow.bits11 : waitsOk quinarialaw02_ChannelNarrow.T11.2 quinarialaw02_ChannelNarrow.B11 = true := by kernel_rfl
def quinarialaw02_ChannelNarrow.T18 : Bool × List (List Nat × List Nat) := (true, [([], []), ([], []), ([], []), ([1, 2], [1, 2]), ([3], [3]), ([0, 4], [0, 4]), ([5], [5]), ([6, 5], [6]), ([7], [7]), ([8, 7], [7, 8]), ([9, 7, 7], [7, 9]), ([10], [10]), ([10], [10]), ([11, 12, 10], [10, 11, 12]), ([13, 10], [10, 13]), ([10], [10]), ([10], [10]), ([16, 10], [10, 16]), ([15, 17, 10], [10, 15, 17]), ([18, 10], [10, 18]), ([14, 19, 10], [10, 14, 19]), ([10, 20, 7], [7, 10, 20]), ([7, 21], [7, 21])])
def quinarialaw02_ChannelNarrow.B18 : List Nat := [0, 0, 0, 6, 14, 31, 63, 127, 255, 511, 1023, 2047, 2047, 8191, 16383, 2047, 2047, 67583, 231423, 493567, 1048575, 2097151, 4194303]
theorem quinarialaw02_ChannelNarrow.tab18 : rtab .any (opsOf Tryz.f5 18) = quinarialaw02_ChannelNarrow.T18 := by kernel_rfl
theorem quinarialaw02_ChannelNarrow.bits18 : waitsOk quinarialaw02_ChannelNarrow.T18.2 quinarialaw02_ChannelNarrow.B18 = true := by kernel_rfl
def quinarialaw02_ChannelNarrow.T21 : Bool × List (List Nat × List Nat) := (true, [([], []), ([], []), ([], []), ([1, 2], [1, 2]), ([3], [3]), ([], []), ([], []), ([], []), ([6, 7], [6, 7]), ([8], [8]), ([5, 9], [5, 9]), ([10], [10]), ([], []), ([12], [12]), ([], []), ([], []), ([14, 15], [14, 15]), ([16], [16]), ([13, 17], [13, 17]), ([18], [18]), ([19], [19]), ([20], [20]), ([0, 4, 11, 21], [0, 4, 11, 21]), ([22, 22, 0, 1, 2, 3, 4, 5, 6, 7, 8, 9, 10, 11, 12, 13, 14, 15, 16, 17, 18, 19, 20, 21, 22], [22])])
def quinarialaw02_ChannelNarrow.B21 : List Nat := [0, 0, 0, 6, 14, 0, 0, 0, 192, 448, 992, 2016, 0, 4096, 0, 0, 49152, 114688, 258048, 520192, 1044480, 2093056, 4194303, 8388607]
theorem quinarialaw02_ChannelNarrow.tab21 : rtab .any (opsOf Tryz.f5 21) = quinarialaw02_ChannelNarrow.T21 := by kernel_rfl
theorem quinarialaw02_ChannelNarrow.bits21 : waitsOk quinarialaw02_ChannelNarrow.T21.2 quinarialaw02_ChannelNarrow.B21 = true := by kernel_rfl
def quinarialaw02_ChannelNarrow.T25 : Bool × List (List Nat × List Nat) := (true, [([], []), ([], []), ([], []), ([1, 2], [1, 2]), ([3], [3]), ([0, 4], [0, 4]), ([5], [5]), ([6], [6]), ([6], [6]), ([6], [6]), ([6], [6]), ([9, 10, 6], [6, 9, 10]), ([11, 6], [6, 11]), ([6], [6]), ([13, 6], [6, 13]), ([6], [6]), ([14, 15, 6], [6, 14, 15]), ([16, 6], [6, 16]), ([17, 6], [6, 17]), ([18, 6], [6, 18]), ([7, 8, 12, 19, 6, 6], [6, 7, 8, 12, 19]), ([6], [6]), ([20, 21, 6], [6, 20, 21]), ([6, 22], [6, 22])])
def quinarialaw02_ChannelNarrow.B25 : List Nat := [0, 0, 0, 6, 14, 31, 63, 127, 127, 127, 127, 1663, 3711, 127, 8319, 127, 57471, 123007, 254079, 516223, 1048575, 127, 4194303, 8388607]
theorem quinarialaw02_ChannelNarrow.tab25 : rtab .any (opsOf Tryz.f5 25) = quinarialaw02_ChannelNarrow.T25 := by kernel_rfl
theorem quinarialaw02_ChannelNarrow.bits25 : waitsOk quinarialaw02_ChannelNarrow.T25.2 quinarialaw02_ChannelNarrow.B25 = true := by kernel_rfl
def quinarialaw02_ChannelNarrow.T30 : Bool × List (List Nat × List Nat) := (true, [([], []), ([], []), ([], []), ([], []), ([2, 3], [2, 3]), ([4], [4]), ([], []), ([], []), ([6, 7], [6, 7]), ([8], [8]), ([0, 1, 5, 9], [0, 1, 5, 9]), ([], []), ([10, 11], [10, 11]), ([12, 10], [12]), ([13], [13]), ([13], [13]), ([14, 15, 13], [13, 14, 15]), ([16, 13], [13, 16]), ([17, 13], [13, 17]), ([13, 18], [13, 18])])
def quinarialaw02_ChannelNarrow.B30 : List Nat := [0, 0, 0, 0, 12, 28, 0, 0, 192, 448, 1023, 0, 4095, 8191, 16383, 16383, 65535, 131071, 262143, 524287]
theorem quinarialaw02_ChannelNarrow.tab30 : rtab .any (opsOf Tryz.f5 30) = quinarialaw02_ChannelNarrow.T30 := by kernel_rfl
theorem quinarialaw02_ChannelNarrow.bits30 : waitsOk quinarialaw02_ChannelNarrow.T30.2 quinarialaw02_ChannelNarrow.B30 = true := by kernel_rfl
set_option maxHeartbeats 8000000 in
set_option maxRecDepth 100000 in
theorem quinarialaw02_ChannelNarrow.calls (k : Nat) (A0_0 : Option Addr) (c0_0 : Nat) (l0_0 : List Int) (A0_1 : Option Addr) (c0_1 : Nat) (l0_1 : List (S32)) (A1 : Option Addr) (c1 : Nat) (l1 : List Int) (A2 : Option Addr) (c2 : Nat) (l2 : List Int) (r : Bool) (w : World) (hr0_0 : Kd.C (Kd.int .i64) w A0_0 l0_0.length l0_0) (hc0_0 : l0_0.length ≤ c0_0) (hr0_1 : Kd.C k32 w A0_1 l0_1.length l0_1) (hc0_1 : l0_1.length ≤ c0_1) (hr1 : Kd.C (Kd.int .i64) w A1 l1.length l1) (hc1 : l1.length ≤ c1) (hr2 : Kd.C (Kd.int .i64) w A2 l2.length l2) (hc2 : l2.length ≤ c2) (hT : TabW w) (h : quinarialaw02_ChannelNarrow.f k l0_0 l0_1 l1 l2 = some r) :
  Calls Tryz.prog 5 #[.agg #[.slice A0_0 l0_0.length c0_0, .slice A0_1 l0_1.length c0_1], .slice A1 l1.length c1, .slice A2 l2.length c2] w fun e w' => e = .returned (.bool r) ∧ Below w.heap.size w w' := by
 have HT := Aside0.mk hT
 clear hT
 have hu25 := Tryz.underlying25
 have hu30 := Tryz.underlying30
 have HR0_0 := Aside0.mk hr0_0
 have HC0_0 := Aside0.mk hc0_0
 clear hr0_0 hc0_0
 have HR0_1 := Aside0.mk hr0_1
 have HC0_1 := Aside0.mk hc0_1
 clear hr0_1 hc0_1
 have HR1 := Aside0.mk hr1
 have HC1 := Aside0.mk hc1
 clear hr1 hc1
 have HR2 := Aside0.mk hr2
 have HC2 := Aside0.mk hc2
 clear hr2 hc2
 have HB := Aside0.mk (Below.refl w.heap.size w)
 have H : ((quinarialaw02_short.f l0_0 l0_1).bind fun t674 => (if t674 = true then (if (l1.length : Int) > 10 then (quinarialaw02_ChannelNarrow.j0 k l1 l2 true l0_0 l0_1) else ((quinariaref02_Right.f k l0_0 l0_1).bind fun t675 => (if t675 = true then ((quinariaref02_Ages.f k l0_0 l0_1 l1).bind fun t676 => (if t676 = true then ((quinarialaw02_rated.f k l0_0 l0_1 l2).bind fun t677 => (quinarialaw02_ChannelNarrow.j0 k l1 l2 (!t677) l0_0 l0_1)) else (quinarialaw02_ChannelNarrow.j0 k l1 l2 true l0_0 l0_1))) else (quinarialaw02_ChannelNarrow.j0 k l1 l2 true l0_0 l0_1)))) else (quinarialaw02_ChannelNarrow.j0 k l1 l2 true l0_0 l0_1))) = some r := h
 clear h
 have HC4 := Aside0.mk H
 clear H
 go_enter Tryz.func5, Tryz.ntmps5
 go_upto_region 1 with (first | ((with_reducible refine gate_dst (N := 3) rfl ?_); (try (refine gate_guard (by rfl) ?_; dsimp only)); refine bxe 3 #[.slice A0_0 l0_0.length c0_0, .slice A0_1 l0_1.length c0_1] 25 ?_; intro gb673 hg w5 hbox hb; have n0_ := Aside0.mk (below_step uB hb); have n1_ := Aside0.mk (hbox); have n2_ := gw hg; have n3_ := gw hg; clear HB; have HB := n0_; have BK673 := n1_; have GW673 := n2_; have GE673 := n3_; clear n0_ n1_ n2_ n3_; clear hb hbox hg))
 (try simp only [Act.put, List.setIfInBounds_toArray, List.set_cons_zero, List.set_cons_succ])
 go_cut [42] (fun v42 wc => ∃ (kq : Nat) (x42_3 : Bool), v42 = .bool x42_3 ∧ Aside0 (quinarialaw02_ChannelNarrow.j0 kq l1 l2 x42_3 l0_0 l0_1 = some r) ∧ Aside0 (kq ≤ k) ∧ Aside0 (wc.heap[gb673]? = some (.cells #[(.slice A0_0 l0_0.length c0_0), (.slice A0_1 l0_1.length c0_1)] 25 (0, 0))) ∧ Aside0 (Below w.heap.size w wc))
 case first =>
  as_aux_lemma =>
   have H := HC4.out
   clear HC4
   replace H := Option.bind_eq_some_iff.mp H
   obtain ⟨t674, A60, H⟩ := H
   replace H : (if t674 = true then (if (l1.length : Int) > 10 then (quinarialaw02_ChannelNarrow.j0 k l1 l2 true l0_0 l0_1) else ((quinariaref02_Right.f k l0_0 l0_1).bind fun t675 => (if t675 = true then ((quinariaref02_Ages.f k l0_0 l0_1 l1).bind fun t676 => (if t676 = true then ((quinarialaw02_rated.f k l0_0 l0_1 l2).bind fun t677 => (quinarialaw02_ChannelNarrow.j0 k l1 l2 (!t677) l0_0 l0_1)) else (quinarialaw02_ChannelNarrow.j0 k l1 l2 true l0_0 l0_1))) else (quinarialaw02_ChannelNarrow.j0 k l1 l2 true l0_0 l0_1)))) else (quinarialaw02_ChannelNarrow.j0 k l1 l2 true l0_0 l0_1)) = some r := H
   have A6 := Aside0.mk A60
   clear A60
   by_cases c7 : t674 = true
   ·subst c7
    have H1 : (if (l1.length : Int) > 10 then (quinarialaw02_ChannelNarrow.j0 k l1 l2 true l0_0 l0_1) else ((quinariaref02_Right.f k l0_0 l0_1).bind fun t675 => (if t675 = true then ((quinariaref02_Ages.f k l0_0 l0_1 l1).bind fun t676 => (if t676 = true then ((quinarialaw02_rated.f k l0_0 l0_1 l2).bind fun t677 => (quinarialaw02_ChannelNarrow.j0 k l1 l2 (!t677) l0_0 l0_1)) else (quinarialaw02_ChannelNarrow.j0 k l1 l2 true l0_0 l0_1))) else (quinarialaw02_ChannelNarrow.j0 k l1 l2 true l0_0 l0_1)))) = some r := by rw [if_pos rfl] at H; exact H
    clear H
    have H := H1
    clear H1
    by_cases c8 : (l1.length : Int) > 10
    ·rw [if_pos c8] at H
     have c8b0 : decide (10 < (l1.length : Int)) = true := decide_eq_true c8
     have c8b1 : decide (10 < l1.length) = true := decide_eq_true (by omega)
     clear c8
     (first | rw [c8b0] | (simp only [i64_w, i32_w]; rw [c8b0]) | skip)
     have H' := Aside0.mk H
     clear H
     obtain ⟨hcz9_0, hcz9_1⟩ := cz2 BK673.out
     obtain ⟨hfz9_0, hfz9_1⟩ := fz2 BK673.out
     go_wp2_with (first | ((with_reducible refine gate_callee (f := 13) rfl ?_); refine goesL_ (some 19) rfl rfl Tryz.func13 (by kernel_rfl) rfl #[.agg #[.slice A0_0 l0_0.length c0_0, .slice A0_1 l0_1.length c0_1]] rfl uM ?_; (with_reducible refine (quinarialaw02_short.calls _ _ l0_0 _ _ l0_1 true _ ?side1 ?side2 ?side3 ?side4 A6.out).mono ?_); (case side1 => repeat (first | exact (Kd.C_below HR0_0.out HB.out) | (with_reducible refine Kd.C_alloc ?_ _) | (with_reducible refine Kd.C_drewN ?_ _) | (with_reducible refine Kd.C_drew ?_))); (case side2 => exact HC0_0.out); (case side3 => repeat (first | exact (Kd.C_below HR0_1.out HB.out) | (with_reducible refine Kd.C_alloc ?_ _) | (with_reducible refine Kd.C_drewN ?_ _) | (with_reducible refine Kd.C_drew ?_))); (case side4 => exact HC0_1.out); rintro e w10 ⟨rfl, hb⟩; refine ⟨_, rfl, ?_⟩; replace BK673 := Aside0.mk (blk_below (uK BK673.out) hb); replace HB := Aside0.mk (below_step uB hb); (try clear hb); (try clear hb2); (try clear hk); (try clear hi)))
     go_meet
     case rel => exact ⟨_, (true), u0, H', ⟨u1⟩, ⟨uK BK673.out⟩, ⟨uB⟩⟩
    ·rw [if_neg c8] at H
     have c8b0 : decide (10 < (l1.length : Int)) = false := decide_eq_false c8
     have c8b1 : decide (10 < l1.length) = false := decide_eq_false (by omega)
     clear c8
     (first | rw [c8b0] | (simp only [i64_w, i32_w]; rw [c8b0]) | skip)
     replace H := Option.bind_eq_some_iff.mp H
     obtain ⟨t675, A110, H⟩ := H
     replace H : (if t675 = true then ((quinariaref02_Ages.f k l0_0 l0_1 l1).bind fun t676 => (if t676 = true then ((quinarialaw02_rated.f k l0_0 l0_1 l2).bind fun t677 => (quinarialaw02_ChannelNarrow.j0 k l1 l2 (!t677) l0_0 l0_1)) else (quinarialaw02_ChannelNarrow.j0 k l1 l2 true l0_0 l0_1))) else (quinarialaw02_ChannelNarrow.j0 k l1 l2 true l0_0 l0_1)) = some r := H
     have A11 := Aside0.mk A110
     clear A110
     by_cases c12 : t675 = true
     ·subst c12
      have H1 : ((quinariaref02_Ages.f k l0_0 l0_1 l1).bind fun t676 => (if t676 = true then ((quinarialaw02_rated.f k l0_0 l0_1 l2).bind fun t677 => (quinarialaw02_ChannelNarrow.j0 k l1 l2 (!t677) l0_0 l0_1)) else (quinarialaw02_ChannelNarrow.j0 k l1 l2 true l0_0 l0_1))) = some r := by rw [if_pos rfl] at H; exact H
      clear H
      have H := H1
      clear H1
      replace H := Option.bind_eq_some_iff.mp H
      obtain ⟨t676, A130, H⟩ := H
      replace H : (if t676 = true then ((quinarialaw02_rated.f k l0_0 l0_1 l2).bind fun t677 => (quinarialaw02_ChannelNarrow.j0 k l1 l2 (!t677) l0_0 l0_1)) else (quinarialaw02_ChannelNarrow.j0 k l1 l2 true l0_0 l0_1)) = some r := H
      have A13 := Aside0.mk A130
      clear A130
      by_cases c14 : t676 = true
      ·subst c14
       have H1 : ((quinarialaw02_rated.f k l0_0 l0_1 l2).bind fun t677 => (quinarialaw02_ChannelNarrow.j0 k l1 l2 (!t677) l0_0 l0_1)) = some r := by rw [if_pos rfl] at H; exact H
       clear H
       have H := H1
       clear H1
       replace H := Option.bind_eq_some_iff.mp H
       obtain ⟨t677, A150, H⟩ := H
       replace H : (quinarialaw02_ChannelNarrow.j0 k l1 l2 (!t677) l0_0 l0_1) = some r := H
       have A15 := Aside0.mk A150
       clear A150
       have H' := Aside0.mk H
       clear H
       obtain ⟨hcz16_0, hcz16_1⟩ := cz2 BK673.out
       obtain ⟨hfz16_0, hfz16_1⟩ := fz2 BK673.out
       go_wp2_with (first | ((with_reducible refine gate_callee (f := 13) rfl ?_); refine goesL_ (some 19) rfl rfl Tryz.func13 (by kernel_rfl) rfl #[.agg #[.slice A0_0 l0_0.length c0_0, .slice A0_1 l0_1.length c0_1]] rfl uM ?_; (with_reducible refine (quinarialaw02_short.calls _ _ l0_0 _ _ l0_1 true _ ?side1 ?side2 ?side3 ?side4 A6.out).mono ?_); (case side1 => repeat (first | exact (Kd.C_below HR0_0.out HB.out) | (with_reducible refine Kd.C_alloc ?_ _) | (with_reducible refine Kd.C_drewN ?_ _) | (with_reducible refine Kd.C_drew ?_))); (case side2 => exact HC0_0.out); (case side3 => repeat (first | exact (Kd.C_below HR0_1.out HB.out) | (with_reducible refine Kd.C_alloc ?_ _) | (with_reducible refine Kd.C_drewN ?_ _) | (with_reducible refine Kd.C_drew ?_))); (case side4 => exact HC0_1.out); rintro e w17 ⟨rfl, hb⟩; refine ⟨_, rfl, ?_⟩; replace BK673 := Aside0.mk (blk_below (uK BK673.out) hb); replace HB := Aside0.mk (below_step uB hb); (try clear hb); (try clear hb2); (try clear hk); (try clear hi); obtain ⟨hcz18_0, hcz18_1⟩ := cz2 BK673.out; obtain ⟨hfz18_0, hfz18_1⟩ := fz2 BK673.out) | (go_at_call 14; (with_reducible refine (quinariaref02_Right.calls k _ _ l0_0 _ _ l0_1 true _ ?side1 ?side2 ?side3 ?side4 A11.out).mono ?_); (case side1 => repeat (first | exact (Kd.C_below HR0_0.out HB.out) | (with_reducible refine Kd.C_alloc ?_ _) | (with_reducible refine Kd.C_drewN ?_ _) | (with_reducible refine Kd.C_drew ?_))); (case side2 => exact HC0_0.out); (case side3 => repeat (first | exact (Kd.C_below HR0_1.out HB.out) | (with_reducible refine Kd.C_alloc ?_ _) | (with_reducible refine Kd.C_drewN ?_ _) | (with_reducible refine Kd.C_drew ?_))); (case side4 => exact HC0_1.out); rintro e w19 ⟨rfl, hb⟩; replace BK673 := Aside0.mk (blk_below (uK BK673.out) hb); replace HB := Aside0.mk (below_step uB hb); (try clear hb); (try clear hb2); (try clear hk); (try clear hi); obtain ⟨hcz20_0, hcz20_1⟩ := cz2 BK673.out; obtain ⟨hfz20_0, hfz20_1⟩ := fz2 BK673.out) | (go_at_call 22; (with_reducible refine (quinariaref02_Ages.calls k _ _ l0_0 _ _ l0_1 _ _ l1 true _ ?side1 ?side2 ?side3 ?side4 ?side5 ?side6 A13.out).mono ?_); (case side1 => repeat (first | exact (Kd.C_below HR0_0.out HB.out) | (with_reducible refine Kd.C_alloc ?_ _) | (with_reducible refine Kd.C_drewN ?_ _) | (with_reducible refine Kd.C_drew ?_))); (case side2 => exact HC0_0.out); (case side3 => repeat (first | exact (Kd.C_below HR0_1.out HB.out) | (with_reducible refine Kd.C_alloc ?_ _) | (with_reducible refine Kd.C_drewN ?_ _) | (with_reducible refine Kd.C_drew ?_))); (case side4 => exact HC0_1.out); (case side5 => repeat (first | exact (Kd.C_below HR1.out HB.out) | (with_reducible refine Kd.C_alloc ?_ _) | (with_reducible refine Kd.C_drewN ?_ _) | (with_reducible refine Kd.C_drew ?_))); (case side6 => exact HC1.out); rintro e w21 ⟨rfl, hb⟩; replace BK673 := Aside0.mk (blk_below (uK BK673.out) hb); replace HB := Aside0.mk (below_step uB hb); (try clear hb); (try clear hb2); (try clear hk); (try clear hi); obtain ⟨hcz22_0, hcz22_1⟩ := cz2 BK673.out; obtain ⟨hfz22_0, hfz22_1⟩ := fz2 BK673.out) | (go_at_call 26; (with_reducible refine (quinarialaw02_rated.calls k _ _ l0_0 _ _ l0_1 _ _ l2 t677 _ ?side1 ?side2 ?side3 ?side4 ?side5 ?side6 A15.out).mono ?_); (case side1 => repeat (first | exact (Kd.C_below HR0_0.out HB.out) | (with_reducible refine Kd.C_alloc ?_ _) | (with_reducible refine Kd.C_drewN ?_ _) | (with_reducible refine Kd.C_drew ?_))); (case side2 => exact HC0_0.out); (case side3 => repeat (first | exact (Kd.C_below HR0_1.out HB.out) | (with_reducible refine Kd.C_alloc ?_ _) | (with_reducible refine Kd.C_drewN ?_ _) | (with_reducible refine Kd.C_drew ?_))); (case side4 => exact HC0_1.out); (case side5 => repeat (first | exact (Kd.C_below HR2.out HB.out) | (with_reducible refine Kd.C_alloc ?_ _) | (with_reducible refine Kd.C_drewN ?_ _) | (with_reducible refine Kd.C_drew ?_))); (case side6 => exact HC2.out); rintro e w23 ⟨rfl, hb⟩; replace BK673 := Aside0.mk (blk_below (uK BK673.out) hb); replace HB := Aside0.mk (below_step uB hb); (try clear hb); (try clear hb2); (try clear hk); (try clear hi)))
       go_meet
       case rel => exact ⟨_, (!t677), u0, H', ⟨u1⟩, ⟨uK BK673.out⟩, ⟨uB⟩⟩
      ·replace c14 := Bool.eq_false_iff.mpr c14
       subst c14
       have H1 : (quinarialaw02_ChannelNarrow.j0 k l1 l2 true l0_0 l0_1) = some r := by rw [if_neg (show ¬ (false = true) by decide)] at H; exact H
       clear H
       have H := H1
       clear H1
       have H' := Aside0.mk H
       clear H
       obtain ⟨hcz24_0, hcz24_1⟩ := cz2 BK673.out
       obtain ⟨hfz24_0, hfz24_1⟩ := fz2 BK673.out
       go_wp2_with (first | ((with_reducible refine gate_callee (f := 13) rfl ?_); refine goesL_ (some 19) rfl rfl Tryz.func13 (by kernel_rfl) rfl #[.agg #[.slice A0_0 l0_0.length c0_0, .slice A0_1 l0_1.length c0_1]] rfl uM ?_; (with_reducible refine (quinarialaw02_short.calls _ _ l0_0 _ _ l0_1 true _ ?side1 ?side2 ?side3 ?side4 A6.out).mono ?_); (case side1 => repeat (first | exact (Kd.C_below HR0_0.out HB.out) | (with_reducible refine Kd.C_alloc ?_ _) | (with_reducible refine Kd.C_drewN ?_ _) | (with_reducible refine Kd.C_drew ?_))); (case side2 => exact HC0_0.out); (case side3 => repeat (first | exact (Kd.C_below HR0_1.out HB.out) | (with_reducible refine Kd.C_alloc ?_ _) | (with_reducible refine Kd.C_drewN ?_ _) | (with_reducible refine Kd.C_drew ?_))); (case side4 => exact HC0_1.out); rintro e w25 ⟨rfl, hb⟩; refine ⟨_, rfl, ?_⟩; replace BK673 := Aside0.mk (blk_below (uK BK673.out) hb); replace HB := Aside0.mk (below_step uB hb); (try clear hb); (try clear hb2); (try clear hk); (try clear hi); obtain ⟨hcz26_0, hcz26_1⟩ := cz2 BK673.out; obtain ⟨hfz26_0, hfz26_1⟩ := fz2 BK673.out) | (go_at_call 14; (with_reducible refine (quinariaref02_Right.calls k _ _ l0_0 _ _ l0_1 true _ ?side1 ?side2 ?side3 ?side4 A11.out).mono ?_); (case side1 => repeat (first | exact (Kd.C_below HR0_0.out HB.out) | (with_reducible refine Kd.C_alloc ?_ _) | (with_reducible refine Kd.C_drewN ?_ _) | (with_reducible refine Kd.C_drew ?_))); (case side2 => exact HC0_0.out); (case side3 => repeat (first | exact (Kd.C_below HR0_1.out HB.out) | (with_reducible refine Kd.C_alloc ?_ _) | (with_reducible refine Kd.C_drewN ?_ _) | (with_reducible refine Kd.C_drew ?_))); (case side4 => exact HC0_1.out); rintro e w27 ⟨rfl, hb⟩; replace BK673 := Aside0.mk (blk_below (uK BK673.out) hb); replace HB := Aside0.mk (below_step uB hb); (try clear hb); (try clear hb2); (try clear hk); (try clear hi); obtain ⟨hcz28_0, hcz28_1⟩ := cz2 BK673.out; obtain ⟨hfz28_0, hfz28_1⟩ := fz2 BK673.out) | (go_at_call 22; (with_reducible refine (quinariaref02_Ages.calls k _ _ l0_0 _ _ l0_1 _ _ l1 false _ ?side1 ?side2 ?side3 ?side4 ?side5 ?side6 A13.out).mono ?_); (case side1 => repeat (first | exact (Kd.C_below HR0_0.out HB.out) | (with_reducible refine Kd.C_alloc ?_ _) | (with_reducible refine Kd.C_drewN ?_ _) | (with_reducible refine Kd.C_drew ?_))); (case side2 => exact HC0_0.out); (case side3 => repeat (first | exact (Kd.C_below HR0_1.out HB.out) | (with_reducible refine Kd.C_alloc ?_ _) | (with_reducible refine Kd.C_drewN ?_ _) | (with_reducible refine Kd.C_drew ?_))); (case side4 => exact HC0_1.out); (case side5 => repeat (first | exact (Kd.C_below HR1.out HB.out) | (with_reducible refine Kd.C_alloc ?_ _) | (with_reducible refine Kd.C_drewN ?_ _) | (with_reducible refine Kd.C_drew ?_))); (case side6 => exact HC1.out); rintro e w29 ⟨rfl, hb⟩; replace BK673 := Aside0.mk (blk_below (uK BK673.out) hb); replace HB := Aside0.mk (below_step uB hb); (try clear hb); (try clear hb2); (try clear hk); (try clear hi)))
       go_meet
       case rel => exact ⟨_, (true), u0, H', ⟨u1⟩, ⟨uK BK673.out⟩, ⟨uB⟩⟩
     ·replace c12 := Bool.eq_false_iff.mpr c12
      subst c12
      have H1 : (quinarialaw02_ChannelNarrow.j0 k l1 l2 true l0_0 l0_1) = some r := by rw [if_neg (show ¬ (false = true) by decide)] at H; exact H
      clear H
      have H := H1
      clear H1
      have H' := Aside0.mk H
      clear H
      obtain ⟨hcz30_0, hcz30_1⟩ := cz2 BK673.out
      obtain ⟨hfz30_0, hfz30_1⟩ := fz2 BK673.out
      go_wp2_with (first | ((with_reducible refine gate_callee (f := 13) rfl ?_); refine goesL_ (some 19) rfl rfl Tryz.func13 (by kernel_rfl) rfl #[.agg #[.slice A0_0 l0_0.length c0_0, .slice A0_1 l0_1.length c0_1]] rfl uM ?_; (with_reducible refine (quinarialaw02_short.calls _ _ l0_0 _ _ l0_1 true _ ?side1 ?side2 ?side3 ?side4 A6.out).mono ?_); (case side1 => repeat (first | exact (Kd.C_below HR0_0.out HB.out) | (with_reducible refine Kd.C_alloc ?_ _) | (with_reducible refine Kd.C_drewN ?_ _) | (with_reducible refine Kd.C_drew ?_))); (case side2 => exact HC0_0.out); (case side3 => repeat (first | exact (Kd.C_below HR0_1.out HB.out) | (with_reducible refine Kd.C_alloc ?_ _) | (with_reducible refine Kd.C_drewN ?_ _) | (with_reducible refine Kd.C_drew ?_))); (case side4 => exact HC0_1.out); rintro e w31 ⟨rfl, hb⟩; refine ⟨_, rfl, ?_⟩; replace BK673 := Aside0.mk (blk_below (uK BK673.out) hb); replace HB := Aside0.mk (below_step uB hb); (try clear hb); (try clear hb2); (try clear hk); (try clear hi); obtain ⟨hcz32_0, hcz32_1⟩ := cz2 BK673.out; obtain ⟨hfz32_0, hfz32_1⟩ := fz2 BK673.out) | (go_at_call 14; (with_reducible refine (quinariaref02_Right.calls k _ _ l0_0 _ _ l0_1 false _ ?side1 ?side2 ?side3 ?side4 A11.out).mono ?_); (case side1 => repeat (first | exact (Kd.C_below HR0_0.out HB.out) | (with_reducible refine Kd.C_alloc ?_ _) | (with_reducible refine Kd.C_drewN ?_ _) | (with_reducible refine Kd.C_drew ?_))); (case side2 => exact HC0_0.out); (case side3 => repeat (first | exact (Kd.C_below HR0_1.out HB.out) | (with_reducible refine Kd.C_alloc ?_ _) | (with_reducible refine Kd.C_drewN ?_ _) | (with_reducible refine Kd.C_drew ?_))); (case side4 => exact HC0_1.out); rintro e w33 ⟨rfl, hb⟩; replace BK673 := Aside0.mk (blk_below (uK BK673.out) hb); replace HB := Aside0.mk (below_step uB hb); (try clear hb); (try clear hb2); (try clear hk); (try clear hi)))
      go_meet
      case rel => exact ⟨_, (true), u0, H', ⟨u1⟩, ⟨uK BK673.out⟩, ⟨uB⟩⟩
   ·replace c7 := Bool.eq_false_iff.mpr c7
    subst c7
    have H1 : (quinarialaw02_ChannelNarrow.j0 k l1 l2 true l0_0 l0_1) = some r := by rw [if_neg (show ¬ (false = true) by decide)] at H; exact H
    clear H
    have H := H1
    clear H1
    have H' := Aside0.mk H
    clear H
    obtain ⟨hcz34_0, hcz34_1⟩ := cz2 BK673.out
    obtain ⟨hfz34_0, hfz34_1⟩ := fz2 BK673.out
    go_wp2_with (first | ((with_reducible refine gate_callee (f := 13) rfl ?_); refine goesL_ (some 19) rfl rfl Tryz.func13 (by kernel_rfl) rfl #[.agg #[.slice A0_0 l0_0.length c0_0, .slice A0_1 l0_1.length c0_1]] rfl uM ?_; (with_reducible refine (quinarialaw02_short.calls _ _ l0_0 _ _ l0_1 false _ ?side1 ?side2 ?side3 ?side4 A6.out).mono ?_); (case side1 => repeat (first | exact (Kd.C_below HR0_0.out HB.out) | (with_reducible refine Kd.C_alloc ?_ _) | (with_reducible refine Kd.C_drewN ?_ _) | (with_reducible refine Kd.C_drew ?_))); (case side2 => exact HC0_0.out); (case side3 => repeat (first | exact (Kd.C_below HR0_1.out HB.out) | (with_reducible refine Kd.C_alloc ?_ _) | (with_reducible refine Kd.C_drewN ?_ _) | (with_reducible refine Kd.C_drew ?_))); (case side4 => exact HC0_1.out); rintro e w35 ⟨rfl, hb⟩; refine ⟨_, rfl, ?_⟩; replace BK673 := Aside0.mk (blk_below (uK BK673.out) hb); replace HB := Aside0.mk (below_step uB hb); (try clear hb); (try clear hb2); (try clear hk); (try clear hi)))
    go_meet
    case rel => exact ⟨_, (true), u0, H', ⟨u1⟩, ⟨uK BK673.out⟩, ⟨uB⟩⟩
 case rest =>
  as_aux_lemma =>
   clear HC4; try clear c1; try clear c2; try clear p2; try clear c5; try clear c7; try clear c8; try clear c8b0; try clear c8b1; try clear c12; try clear c13; try clear c14; try clear hcz16_0; try clear hcz16_1; try clear hcz18_0; try clear hcz18_1; try clear hcz20_0; try clear hcz20_1; try clear hcz22_0; try clear hcz22_1; try clear hcz24_0; try clear hcz24_1; try clear hcz26_0; try clear hcz26_1; try clear hcz28_0; try clear hcz28_1; try clear hcz30_0; try clear hcz30_1; try clear hcz32_0; try clear hcz32_1; try clear hcz34_0; try clear hcz34_1; try clear hcz9_0; try clear hcz9_1; try clear hfz16_0; try clear hfz16_1; try clear hfz18_0; try clear hfz18_1; try clear hfz20_0; try clear hfz20_1; try clear hfz22_0; try clear hfz22_1; try clear hfz24_0; try clear hfz24_1; try clear hfz26_0; try clear hfz26_1; try clear hfz28_0; try clear hfz28_1; try clear hfz30_0; try clear hfz30_1; try clear hfz32_0; try clear hfz32_1; try clear hfz34_0; try clear hfz34_1; try clear hfz9_0; try clear hfz9_1
   obtain ⟨kq, x42_3, rfl, HA, HJ3, BK673, HB⟩ := hcut
   cases kq with
   | zero => exact absurd HA.out (by simp [quinarialaw02_ChannelNarrow.j0])
   | succ kj3 =>
    have H := HA.out
    clear HA
    simp only [quinarialaw02_ChannelNarrow.j0] at H
    by_cases c36 : x42_3 = true
    ·subst c36
     have H1 : ((quinarialaw02_known.f kj3).bind fun t678 => (some t678)) = some r := by rw [if_pos rfl] at H; exact H
     clear H
     have H := H1
     clear H1
     replace H := Option.bind_eq_some_iff.mp H
     obtain ⟨t678, A370, H⟩ := H
     replace H : (some t678) = some r := H
     have A37 := Aside0.mk A370
     clear A370
     obtain rfl := Option.some.inj H
     go_wp2_with (first | ((with_reducible refine gate_callee (f := 17) rfl ?_); refine goesL_ (some 43) rfl rfl Tryz.func17 (by kernel_rfl) rfl #[] rfl uM ?_; (with_reducible refine (quinarialaw02_known.calls kj3  t678 _ ?sideT A37.out).mono ?_); (case sideT => exact HT.out.below uB); rintro e w38 ⟨rfl, hb⟩; refine ⟨_, rfl, ?_⟩; replace BK673 := Aside0.mk (blk_below (uK BK673.out) hb); replace HB := Aside0.mk (below_step uB hb); (try clear hb); (try clear hb2); (try clear hk); (try clear hi)))
     go_ret
     exact ⟨uE, uB⟩
    ·as_aux_lemma =>
      replace c36 := Bool.eq_false_iff.mpr c36
      subst c36
      have H1 : ((channel_Line.f kj3 l0_0 l0_1 l1).bind fun bt679 => ((channel_Narrowest.f kj3 l0_0 l0_1 l1).bind fun bt683 => (if bt679.2.2 = 0 then (if bt683.2 = 0 then (quinarialaw02_ChannelNarrow.j1 kj3 l1 l2 bt683.1 (decide ((bt683.1.length : Int) > (l0_1.length : Int))) l0_0 l0_1 bt679.1 bt679.2.1) else (quinarialaw02_ChannelNarrow.j1 kj3 l1 l2 bt683.1 true l0_0 l0_1 bt679.1 bt679.2.1)) else (quinarialaw02_ChannelNarrow.j1 kj3 l1 l2 bt683.1 true l0_0 l0_1 bt679.1 bt679.2.1)))) = some r := by rw [if_neg (show ¬ (false = true) by decide)] at H; exact H
      clear H
      have H := H1
      clear H1
      replace H := Option.bind_eq_some_iff.mp H
      obtain ⟨⟨t679, t680, t681⟩, A390, H⟩ := H
      replace H : ((channel_Narrowest.f kj3 l0_0 l0_1 l1).bind fun bt683 => (if t681 = 0 then (if bt683.2 = 0 then (quinarialaw02_ChannelNarrow.j1 kj3 l1 l2 bt683.1 (decide ((bt683.1.length : Int) > (l0_1.length : Int))) l0_0 l0_1 t679 t680) else (quinarialaw02_ChannelNarrow.j1 kj3 l1 l2 bt683.1 true l0_0 l0_1 t679 t680)) else (quinarialaw02_ChannelNarrow.j1 kj3 l1 l2 bt683.1 true l0_0 l0_1 t679 t680))) = some r := H
      have A39 := Aside0.mk A390
      clear A390
      replace H := Option.bind_eq_some_iff.mp H
      obtain ⟨⟨t683, t686⟩, A400, H⟩ := H
      replace H : (if t681 = 0 then (if t686 = 0 then (quinarialaw02_ChannelNarrow.j1 kj3 l1 l2 t683 (decide ((t683.length : Int) > (l0_1.length : Int))) l0_0 l0_1 t679 t680) else (quinarialaw02_ChannelNarrow.j1 kj3 l1 l2 t683 true l0_0 l0_1 t679 t680)) else (quinarialaw02_ChannelNarrow.j1 kj3 l1 l2 t683 true l0_0 l0_1 t679 t680)) = some r := H
      have A40 := Aside0.mk A400
      clear A400
      have HC41 := Aside0.mk H
      clear H
      obtain ⟨hcz42_0, hcz42_1⟩ := cz2 BK673.out
      obtain ⟨hfz42_0, hfz42_1⟩ := fz2 BK673.out
      go_upto_region 5 with (first | ((with_reducible refine gate_callee (f := 20) rfl ?_); refine goesL_ (some 47) rfl rfl Tryz.func20 (by kernel_rfl) rfl #[.agg #[.slice A0_0 l0_0.length c0_0, .slice A0_1 l0_1.length c0_1], .slice A1 l1.length c1] rfl uM ?_; (with_reducible refine (channel_Line.calls kj3 _ _ l0_0 _ _ l0_1 _ _ l1 t679 t680 t681 _ ?side1 ?side2 ?side3 ?side4 ?side5 ?side6 A39.out).mono ?_); (case side1 => repeat (first | exact (Kd.C_below HR0_0.out HB.out) | (with_reducible refine Kd.C_alloc ?_ _) | (with_reducible refine Kd.C_drewN ?_ _) | (with_reducible refine Kd.C_drew ?_))); (case side2 => exact HC0_0.out); (case side3 => repeat (first | exact (Kd.C_below HR0_1.out HB.out) | (with_reducible refine Kd.C_alloc ?_ _) | (with_reducible refine Kd.C_drewN ?_ _) | (with_reducible refine Kd.C_drew ?_))); (case side4 => exact HC0_1.out); (case side5 => repeat (first | exact (Kd.C_below HR1.out HB.out) | (with_reducible refine Kd.C_alloc ?_ _) | (with_reducible refine Kd.C_drewN ?_ _) | (with_reducible refine Kd.C_drew ?_))); (case side6 => exact HC1.out); rintro e w43 ⟨rfl, hb⟩; refine ⟨_, rfl, ?_⟩; replace BK673 := Aside0.mk (blk_below (uK BK673.out) hb); replace HB := Aside0.mk (below_step uB hb); (try clear hb); (try clear hb2); (try clear hk); (try clear hi)) | ((with_reducible refine gate_dst (N := 7) rfl ?_); (try (refine gate_guard (by rfl) ?_; dsimp only)); refine bxe 7 #[.int .i64 0, .int .i64 0] 30 ?_; intro gb682 hg w44 hbox hb; have n0_ := Aside0.mk (blk_below (uK BK673.out) hb); have n1_ := Aside0.mk (below_step uB hb); have n2_ := Aside0.mk (hbox); have n3_ := gw hg; have n4_ := gw hg; have n5_ := nb BK673 hg; have n6_ := nc BK673 hg; clear BK673; clear HB; have BK673 := n0_; have HB := n1_; have BK682 := n2_; have GW682 := n3_; have GE682 := n4_; have NB673_682 := n5_; have NB682_673 := n6_; clear n0_ n1_ n2_ n3_ n4_ n5_ n6_; clear hb hbox hg; have hnb45 := NB682_673.out; have hnc45 := NB673_682.out; obtain ⟨hcz46_0, hcz46_1⟩ := cz2 BK682.out; obtain ⟨hfz46_0, hfz46_1⟩ := fz2 BK682.out; obtain ⟨hcz47_0, hcz47_1⟩ := cz2 BK673.out; obtain ⟨hfz47_0, hfz47_1⟩ := fz2 BK673.out) | ((with_reducible refine gate_callee (f := 21) rfl ?_); refine goesL_ (some 53) rfl rfl Tryz.func21 (by kernel_rfl) rfl #[.agg #[.slice A0_0 l0_0.length c0_0, .slice A0_1 l0_1.length c0_1], .slice A1 l1.length c1] rfl uM ?_; (with_reducible refine (channel_Narrowest.calls kj3 _ _ l0_0 _ _ l0_1 _ _ l1 t683 t686 _ ?side1 ?side2 ?side3 ?side4 ?side5 ?side6 A40.out).mono ?_); (case side1 => exact Kd.C_below HR0_0.out uB); (case side2 => exact HC0_0.out); (case side3 => exact Kd.C_below HR0_1.out uB); (case side4 => exact HC0_1.out); (case side5 => exact Kd.C_below HR1.out uB); (case side6 => exact HC1.out); rintro e w48 ⟨v684, rfl, ho0, hb⟩; refine ⟨_, rfl, ?_⟩; have HO685 := Aside0.mk (Kd.R_lower ho0 (below_size uB)); replace BK673 := Aside0.mk (blk_below (g := gb673) (o := .cells #[.slice A0_0 l0_0.length c0_0, .slice A0_1 l0_1.length c0_1] 25 (0, 0)) (by refine uK ?_; refine blk_far ?_ NB673_682.out _; refine uK ?_; refine blk_far ?_ NB673_682.out _; refine uK ?_; exact BK673.out) hb); replace BK682 := Aside0.mk (blk_below (g := gb682) (o := .cells #[.int .i64 t679, .int .i64 t680] 30 (0, 0)) (by refine uK ?_; refine blk_put (cs := #[.int .i64 t679, .int .i64 0]) ?_ 1 _ rfl; refine uK ?_; refine blk_put (cs := #[.int .i64 0, .int .i64 0]) ?_ 0 _ rfl; refine uK ?_; exact BK682.out) hb); replace HB := Aside0.mk (below_step uB hb); (try clear hb); (try clear hb2); (try clear hk); (try clear hi); (try clear ho0)))
      (try simp only [Act.put, List.setIfInBounds_toArray, List.set_cons_zero, List.set_cons_succ])
      go_cut [69] (fun v69 wc => ∃ (kq : Nat) (x69_40 : Bool), v69 = .bool x69_40 ∧ Aside0 (quinarialaw02_ChannelNarrow.j1 kq l1 l2 t683 x69_40 l0_0 l0_1 t679 t680 = some r) ∧ Aside0 (kq ≤ kj3) ∧ Aside0 (Kd.R (Kd.int .i64) 3 wc w.heap.size (fun _ => True) v684 t683) ∧ Aside0 (wc.heap[gb673]? = some (.cells #[(.slice A0_0 l0_0.length c0_0), (.slice A0_1 l0_1.length c0_1)] 25 (0, 0))) ∧ Aside0 (wc.heap[gb682]? = some (.cells #[.int .i64 t679, .int .i64 t680] 30 (0, 0))) ∧ Aside0 (Below w.heap.size w wc))
      case first =>
       as_aux_lemma =>
        have H := HC41.out
        clear HC41
        by_cases c49 : t681 = 0
        ·rw [if_pos c49] at H
         have c49b0 : (t681 == 0) = true := beq_iff_eq.mpr c49
         have c49b1 : (t681 != 0) = false := bne_eq_false_iff_eq.mpr c49
         clear c49
         (first | rw [c49b0] | (simp only [i64_w, i32_w]; rw [c49b0]) | skip)
         by_cases c50 : t686 = 0
         ·rw [if_pos c50] at H
          have c50b0 : (t686 == 0) = true := beq_iff_eq.mpr c50
          have c50b1 : (t686 != 0) = false := bne_eq_false_iff_eq.mpr c50
          clear c50
          have H' := Aside0.mk H
          clear H
          obtain ⟨Ao51, co51, eo51⟩ := Kd.R_slice HO685.out
          subst eo51
          have hnb52 := NB673_682.out
          have hnc52 := NB682_673.out
          obtain ⟨hcz53_0, hcz53_1⟩ := cz2 BK673.out
          obtain ⟨hfz53_0, hfz53_1⟩ := fz2 BK673.out
          go_wp2
          go_meet
          case rel => exact ⟨_, (decide ((t683.length : Int) > (l0_1.length : Int))), u0, H', ⟨by have := HJ3.out; first | omega | exact Nat.le_refl _⟩, ⟨uR HO685.out⟩, ⟨uK BK673.out⟩, ⟨uK BK682.out⟩, ⟨uB⟩⟩
         ·rw [if_neg c50] at H
          have c50b0 : (t686 == 0) = false := beq_eq_false_iff_ne.mpr c50
          have c50b1 : (t686 != 0) = true := bne_iff_ne.mpr c50
          have H' := Aside0.mk H
          clear H
          go_wp2
          go_meet
          case rel => exact ⟨_, (true), u0, H', ⟨by have := HJ3.out; first | omega | exact Nat.le_refl _⟩, ⟨uR HO685.out⟩, ⟨uK BK673.out⟩, ⟨uK BK682.out⟩, ⟨uB⟩⟩
        ·rw [if_neg c49] at H
         have c49b0 : (t681 == 0) = false := beq_eq_false_iff_ne.mpr c49
         have c49b1 : (t681 != 0) = true := bne_iff_ne.mpr c49
         (first | rw [c49b0] | (simp only [i64_w, i32_w]; rw [c49b0]) | skip)
         have H' := Aside0.mk H
         clear H
         go_wp2
         go_meet
         case rel => exact ⟨_, (true), u0, H', ⟨by have := HJ3.out; first | omega | exact Nat.le_refl _⟩, ⟨uR HO685.out⟩, ⟨uK BK673.out⟩, ⟨uK BK682.out⟩, ⟨uB⟩⟩
      case rest =>
       as_aux_lemma =>
        clear HC41; try clear c1; try clear c2; try clear p2; try clear c3; try clear c4; try clear c5; try clear c7; try clear c8; try clear c8b0; try clear c8b1; try clear c12; try clear c13; try clear c14; try clear c17; try clear c20; try clear c21; try clear c36; try clear c45; try clear c49; try clear c49b0; try clear c49b1; try clear c50; try clear c50b0; try clear c50b1; try clear c52; try clear hcz16_0; try clear hcz16_1; try clear hcz18_0; try clear hcz18_1; try clear hcz20_0; try clear hcz20_1; try clear hcz22_0; try clear hcz22_1; try clear hcz24_0; try clear hcz24_1; try clear hcz26_0; try clear hcz26_1; try clear hcz28_0; try clear hcz28_1; try clear hcz30_0; try clear hcz30_1; try clear hcz32_0; try clear hcz32_1; try clear hcz34_0; try clear hcz34_1; try clear hcz42_0; try clear hcz42_1; try clear hcz46_0; try clear hcz46_1; try clear hcz47_0; try clear hcz47_1; try clear hcz53_0; try clear hcz53_1; try clear hcz9_0; try clear hcz9_1; try clear hfz16_0; try clear hfz16_1; try clear hfz18_0; try clear hfz18_1; try clear hfz20_0; try clear hfz20_1; try clear hfz22_0; try clear hfz22_1; try clear hfz24_0; try clear hfz24_1; try clear hfz26_0; try clear hfz26_1; try clear hfz28_0; try clear hfz28_1; try clear hfz30_0; try clear hfz30_1; try clear hfz32_0; try clear hfz32_1; try clear hfz34_0; try clear hfz34_1; try clear hfz42_0; try clear hfz42_1; try clear hfz46_0; try clear hfz46_1; try clear hfz47_0; try clear hfz47_1; try clear hfz53_0; try clear hfz53_1; try clear hfz9_0; try clear hfz9_1; try clear p2
        obtain ⟨kq, x69_40, rfl, HA, HJ40, HO_9, BK673, BK682, HB⟩ := hcut
        cases kq with
        | zero => exact absurd HA.out (by simp [quinarialaw02_ChannelNarrow.j1])
        | succ kj40 =>
         have H := HA.out
         clear HA
         simp only [quinarialaw02_ChannelNarrow.j1] at H
         by_cases c54 : x69_40 = true
         ·subst c54
          have H1 : (some false) = some r := by rw [if_pos rfl] at H; exact H
          clear H
          have H := H1
          clear H1
          obtain rfl := Option.some.inj H
          go_wp2
          go_ret
          exact ⟨uE, uB⟩
         ·as_aux_lemma =>
           replace c54 := Bool.eq_false_iff.mpr c54
           subst c54
           have H1 : (quinarialaw02_ChannelNarrow.l0 kj40 l1 l2 t683 10000001 0 l0_0 l0_1 t679 t680) = some r := by rw [if_neg (show ¬ (false = true) by decide)] at H; exact H
           clear H
           have H := H1
           clear H1
           have H' := Aside0.mk H
           clear H
           go_wp2
           go_loopg [11, 12] kj40 (fun kq v11 v12 w' => ∃ (x11_3 : Int) (x12_3 : Int), v11 = .int .i64 x11_3 ∧ v12 = .int .i64 x12_3 ∧ Aside0 (quinarialaw02_ChannelNarrow.l0 kq l1 l2 t683 x11_3 x12_3 l0_0 l0_1 t679 t680 = some r) ∧ Aside0 (kq ≤ kj40) ∧ Aside0 (Kd.R (Kd.int .i64) 3 w' w.heap.size (fun _ => True) v684 t683) ∧ Aside0 (w'.heap[gb673]? = some (.cells #[(.slice A0_0 l0_0.length c0_0), (.slice A0_1 l0_1.length c0_1)] 25 (0, 0))) ∧ Aside0 (w'.heap[gb682]? = some (.cells #[.int .i64 t679, .int .i64 t680] 30 (0, 0))) ∧ Aside0 (Below w.heap.size w w'))
           case atStart => exact ⟨(10000001), (0), u0, u0, H', ⟨Nat.le_refl _⟩, ⟨uR HO_9.out⟩, ⟨uK BK673.out⟩, ⟨uK BK682.out⟩, ⟨uB⟩⟩
           case round =>
            as_aux_lemma =>
             clear H'
             try clear c1; try clear c2; try clear p2; try clear c3; try clear c4; try clear c5; try clear c7; try clear c8; try clear c8b0; try clear c8b1; try clear c12; try clear c13; try clear c14; try clear c17; try clear c20; try clear c21; try clear c36; try clear c45; try clear c49; try clear c49b0; try clear c49b1; try clear c50; try clear c50b0; try clear c50b1; try clear c52; try clear c54; try clear hcz16_0; try clear hcz16_1; try clear hcz18_0; try clear hcz18_1; try clear hcz20_0; try clear hcz20_1; try clear hcz22_0; try clear hcz22_1; try clear hcz24_0; try clear hcz24_1; try clear hcz26_0; try clear hcz26_1; try clear hcz28_0; try clear hcz28_1; try clear hcz30_0; try clear hcz30_1; try clear hcz32_0; try clear hcz32_1; try clear hcz34_0; try clear hcz34_1; try clear hcz42_0; try clear hcz42_1; try clear hcz46_0; try clear hcz46_1; try clear hcz47_0; try clear hcz47_1; try clear hcz53_0; try clear hcz53_1; try clear hcz9_0; try clear hcz9_1; try clear hfz16_0; try clear hfz16_1; try clear hfz18_0; try clear hfz18_1; try clear hfz20_0; try clear hfz20_1; try clear hfz22_0; try clear hfz22_1; try clear hfz24_0; try clear hfz24_1; try clear hfz26_0; try clear hfz26_1; try clear hfz28_0; try clear hfz28_1; try clear hfz30_0; try clear hfz30_1; try clear hfz32_0; try clear hfz32_1; try clear hfz34_0; try clear hfz34_1; try clear hfz42_0; try clear hfz42_1; try clear hfz46_0; try clear hfz46_1; try clear hfz47_0; try clear hfz47_1; try clear hfz53_0; try clear hfz53_1; try clear hfz9_0; try clear hfz9_1; try clear p2
             obtain ⟨x11_3, x12_3, rfl, rfl, HA, HK3, HO_9, BK673, BK682, HB⟩ := hrel
             cases gk with
             | zero => exact absurd HA.out (by simp [quinarialaw02_ChannelNarrow.l0])
             | succ k3 =>
              have H := HA.out
              clear HA
              simp only [quinarialaw02_ChannelNarrow.l0] at H
              by_cases c55 : x12_3 < (l2.length : Int)
              ·rw [if_pos c55] at H
               replace c55 := decide_eq_true c55
               obtain ⟨c56, H⟩ := ifs H
               replace c56 := decide_eq_true c56
               obtain ⟨c57, H⟩ := ifs H
               replace c57 := decide_eq_true c57
               replace H := Option.bind_eq_some_iff.mp H
               obtain ⟨t689, A580, H⟩ := H
               replace H : (quinarialaw02_ChannelNarrow.l0 k3 l1 l2 t683 (mn x11_3 t689) (wrap64 (x12_3 + 1)) l0_0 l0_1 t679 t680) = some r := H
               have A58 := Aside0.mk A580
               clear A580
               obtain ⟨ji59, hji59⟩ : ∃ j_ : Int, (mn x11_3 t689) = j_ := ⟨_, rfl⟩
               replace H : (quinarialaw02_ChannelNarrow.l0 k3 l1 l2 t683 ji59 (wrap64 (x12_3 + 1)) l0_0 l0_1 t679 t680) = some r := by first | (rw [hji59] at H; exact H) | (simp only [hji59] at H ⊢; exact H)
               (try rw [hji59] at A58)
               have hji59_ : (if t689 < x11_3 then t689 else x11_3) = ji59 := hji59
               have H' := Aside0.mk H
               clear H
               try go_wp2
               replace HO_9 := Aside0.mk (Kd.R_drew HO_9.out)
               replace BK673 := Aside0.mk (blk_drew BK673.out)
               replace BK682 := Aside0.mk (blk_drew BK682.out)
               replace HB := Aside0.mk (below_drew1 HB.out)
               have p687 : 0 ≤ (x12_3 : Int) := of_decide_eq_true (by first | (with_reducible assumption) | assumption)
               have q687 : x12_3 < (l1.length : Int) := of_decide_eq_true (by first | (with_reducible assumption) | assumption)
               obtain ⟨ad687, e687, hx687_0⟩ := Kd.at_int HR1.out x12_3 p687 q687
               have hw687_0 := hx687_0
               cases e687
               replace hx687_0 := hcell HB.out hx687_0
               replace p687 := eq_true p687
               replace q687 := eq_true q687
               have p688 : 0 ≤ (x12_3 : Int) := of_decide_eq_true (by first | (with_reducible assumption) | assumption)
               have q688 : x12_3 < (l2.length : Int) := of_decide_eq_true (by first | (with_reducible assumption) | assumption)
               obtain ⟨ad688, e688, hx688_0⟩ := Kd.at_int HR2.out x12_3 p688 q688
               have hw688_0 := hx688_0
               cases e688
               replace hx688_0 := hcell HB.out hx688_0
               replace p688 := eq_true p688
               replace q688 := eq_true q688
               refine start_ (n := 14) (S := fun w' => w'.cell? ⟨gb673, 0, none⟩ = some (.slice A0_0 l0_0.length c0_0) ∧ w'.cell? ⟨gb673, 1, none⟩ = some (.slice A0_1 l0_1.length c0_1) ∧ w'.cell? (ad687.add (x12_3).toNat) = some (.int .i64 (rd l1 x12_3)) ∧ w'.cell? (ad688.add (x12_3).toNat) = some (.int .i64 (rd l2 x12_3))) (ds := []) (bl 14 0) (by kernel_rfl) rfl rfl ⟨(blk_cell BK673.out 0).trans rfl, (blk_cell BK673.out 1).trans rfl, (hcell HB.out hw687_0), (hcell HB.out hw688_0)⟩ (fun hHeld => ?_); refine with_tabW quinarialaw02_ChannelNarrow.tab11 quinarialaw02_ChannelNarrow.bits11 (fun HT_ HW_ => ?_)
               generalize wr.drew = w60 at HO_9 BK673 BK682 HB hx687_0 hx688_0 hHeld ⊢
               refine pu 0 76 14 1 ?_
               refine pu 2 78 14 5 ?_
               refine pu 3 79 14 13 ?_
               refine pu 4 80 14 29 ?_
               refine pu 5 81 14 61 ?_
               refine pu 7 83 14 189 ?_
               refine pu 8 84 14 445 ?_
               refine pu 9 85 14 957 ?_
               refine tk4 1 77 14 959 hHeld ?_
               refine tk4 6 82 14 1023 hHeld ?_
               refine tk4 10 86 14 2047 hHeld ?_
               refine one_ (i := 11) (N := some 87) (bl 14 4095) rfl rfl (one_of HT_.out (by kernel_rfl)) (by decide) (fun K hK => ?_)
               refine goes_ Tryz.func19 (by kernel_rfl) rfl #[.agg #[.slice A0_0 l0_0.length c0_0, .slice A0_1 l0_1.length c0_1], .int .i64 x12_3, .int .i64 (rd l1 x12_3), .int .i64 (rd l2 x12_3)] (by rfl) rfl rfl uM ?_
               with_reducible refine (quinariaref02_Cups.calls _ _ l0_0 _ _ l0_1 x12_3 (rd l1 x12_3) (rd l2 x12_3) t689 _ ?side1 ?side2 ?side3 ?side4 A58.out).mono ?_
               (case side1 => repeat (first | exact (Kd.C_below HR0_0.out HB.out) | (with_reducible refine Kd.C_alloc ?_ _) | (with_reducible refine Kd.C_drewN ?_ _) | (with_reducible refine Kd.C_drew ?_)))
               (case side2 => exact HC0_0.out)
               (case side3 => repeat (first | exact (Kd.C_below HR0_1.out HB.out) | (with_reducible refine Kd.C_alloc ?_ _) | (with_reducible refine Kd.C_drewN ?_ _) | (with_reducible refine Kd.C_drew ?_)))
               (case side4 => exact HC0_1.out)
               rintro e w61 ⟨rfl, hb⟩
               refine ⟨_, rfl, ?_⟩
               replace HO_9 := Aside0.mk (Kd.R_below (uR HO_9.out) hb)
               replace BK673 := Aside0.mk (blk_below (uK BK673.out) hb)
               replace BK682 := Aside0.mk (blk_below (uK BK682.out) hb)
               replace HB := Aside0.mk (below_step uB hb)
               (try clear hb)
               (try clear hb2)
               (try clear hk)
               (try clear hi)
               refine hK.out _ _ ⟨(blk_cell BK673.out 0).trans rfl, (blk_cell BK673.out 1).trans rfl, (hcell HB.out hw687_0), (hcell HB.out hw688_0)⟩ (fun hHeld => ?_)
               clear hK K
               refine nm ?_
               refine pu 12 88 14 8191 ?_
               refine pu 13 11 14 16383 ?_
               refine done_ (done_of HT_.out (by kernel_rfl)) ?_
               try go_wp2
               go_roundg k3
               case measure => have := HJ3.out; have := HJ40.out; have := HK3.out; omega
               case rel => exact ⟨(ji59), (wrap64 (x12_3 + 1)), (by first | rfl | (simp; done) | (simp only [← hji59] <;> (first | rfl | simp)) | (simp [*]; done)), u0, H', ⟨by have := HJ3.out; have := HJ40.out; have := HK3.out; omega⟩, ⟨uR HO_9.out⟩, ⟨uK BK673.out⟩, ⟨uK BK682.out⟩, ⟨uB⟩⟩
              ·as_aux_lemma =>
                rw [if_neg c55] at H
                replace c55 := decide_eq_false c55
                have HC62 := Aside0.mk H
                clear H
                go_upto_region 12 with (fail)
                go_cut [98] (fun v98 wc => ∃ (kq : Nat) (x98_61 : Bool), v98 = .bool x98_61 ∧ Aside0 (quinarialaw02_ChannelNarrow.j3 kq l1 l2 t683 x11_3 x98_61 l0_0 l0_1 = some r) ∧ Aside0 (kq ≤ k3) ∧ Aside0 (Kd.R (Kd.int .i64) 3 wc w.heap.size (fun _ => True) v684 t683) ∧ Aside0 (wc.heap[gb673]? = some (.cells #[(.slice A0_0 l0_0.length c0_0), (.slice A0_1 l0_1.length c0_1)] 25 (0, 0))) ∧ Aside0 (wc.heap[gb682]? = some (.cells #[.int .i64 t679, .int .i64 t680] 30 (0, 0))) ∧ Aside0 (Below w.heap.size w wc))
                case first =>
                 as_aux_lemma =>
                  have H := HC62.out
                  clear HC62
                  by_cases c63 : x11_3 < t679
                  ·rw [if_pos c63] at H
                   replace c63 := decide_eq_true c63
                   (first | rw [c63b0] | (simp only [i64_w, i32_w]; rw [c63b0]) | skip)
                   have H' := Aside0.mk H
                   clear H
                   have hnb64 := NB682_673.out
                   have hnc64 := NB673_682.out
                   obtain ⟨hcz65_0, hcz65_1⟩ := cz2 BK682.out
                   obtain ⟨hfz65_0, hfz65_1⟩ := fz2 BK682.out
                   go_wp2
                   go_meet
                   case rel => exact ⟨_, (true), u0, H', ⟨by have := HJ3.out; have := HJ40.out; have := HK3.out; first | omega | exact Nat.le_refl _⟩, ⟨uR HO_9.out⟩, ⟨uK BK673.out⟩, ⟨uK BK682.out⟩, ⟨uB⟩⟩
                  ·rw [if_neg c63] at H
                   replace c63 := decide_eq_false c63
                   (first | rw [c63b0] | (simp only [i64_w, i32_w]; rw [c63b0]) | skip)
                   have H' := Aside0.mk H
                   clear H
                   have hnb66 := NB682_673.out
                   have hnc66 := NB673_682.out
                   obtain ⟨hcz67_0, hcz67_1⟩ := cz2 BK682.out
                   obtain ⟨hfz67_0, hfz67_1⟩ := fz2 BK682.out
                   go_wp2
                   go_meet
                   case rel => exact ⟨_, (decide (x11_3 > t680)), u0, H', ⟨by have := HJ3.out; have := HJ40.out; have := HK3.out; first | omega | exact Nat.le_refl _⟩, ⟨uR HO_9.out⟩, ⟨uK BK673.out⟩, ⟨uK BK682.out⟩, ⟨uB⟩⟩
                case rest =>
                 as_aux_lemma =>
                  clear HC62; try clear c1; try clear c2; try clear p2; try clear c3; try clear c4; try clear c5; try clear c6; try clear p6; try clear q6; try clear hx6; try clear c7; try clear c8; try clear c8b0; try clear c8b1; try clear c12; try clear c13; try clear c14; try clear c17; try clear c19; try clear c20; try clear c21; try clear c36; try clear c45; try clear c49; try clear c49b0; try clear c49b1; try clear c50; try clear c50b0; try clear c50b1; try clear c52; try clear c54; try clear c55; try clear c55b0; try clear c56; try clear c56b0; try clear c57; try clear c57b0; try clear c63; try clear c63b0; try clear c64; try clear p64; try clear c66; try clear hcz16_0; try clear hcz16_1; try clear hcz18_0; try clear hcz18_1; try clear hcz20_0; try clear hcz20_1; try clear hcz22_0; try clear hcz22_1; try clear hcz24_0; try clear hcz24_1; try clear hcz26_0; try clear hcz26_1; try clear hcz28_0; try clear hcz28_1; try clear hcz30_0; try clear hcz30_1; try clear hcz32_0; try clear hcz32_1; try clear hcz34_0; try clear hcz34_1; try clear hcz42_0; try clear hcz42_1; try clear hcz46_0; try clear hcz46_1; try clear hcz47_0; try clear hcz47_1; try clear hcz53_0; try clear hcz53_1; try clear hcz65_0; try clear hcz65_1; try clear hcz67_0; try clear hcz67_1; try clear hcz9_0; try clear hcz9_1; try clear hfz16_0; try clear hfz16_1; try clear hfz18_0; try clear hfz18_1; try clear hfz20_0; try clear hfz20_1; try clear hfz22_0; try clear hfz22_1; try clear hfz24_0; try clear hfz24_1; try clear hfz26_0; try clear hfz26_1; try clear hfz28_0; try clear hfz28_1; try clear hfz30_0; try clear hfz30_1; try clear hfz32_0; try clear hfz32_1; try clear hfz34_0; try clear hfz34_1; try clear hfz42_0; try clear hfz42_1; try clear hfz46_0; try clear hfz46_1; try clear hfz47_0; try clear hfz47_1; try clear hfz53_0; try clear hfz53_1; try clear hfz65_0; try clear hfz65_1; try clear hfz67_0; try clear hfz67_1; try clear hfz9_0; try clear hfz9_1; try clear hx687_0; try clear hx688_0; try clear p2; try clear p687; try clear p688; try clear q687; try clear q688
                  obtain ⟨kq, x98_61, rfl, HA, HJ61, HO_9, BK673, BK682, HB⟩ := hcut
                  cases kq with
                  | zero => exact absurd HA.out (by simp [quinarialaw02_ChannelNarrow.j3])
                  | succ kj61 =>
                   have H := HA.out
                   clear HA
                   simp only [quinarialaw02_ChannelNarrow.j3] at H
                   by_cases c68 : x98_61 = true
                   ·subst c68
                    have H1 : (some false) = some r := by rw [if_pos rfl] at H; exact H
                    clear H
                    have H := H1
                    clear H1
                    obtain rfl := Option.some.inj H
                    go_wp2
                    go_ret
                    exact ⟨uE, uB⟩
                   ·as_aux_lemma =>
                     replace c68 := Bool.eq_false_iff.mpr c68
                     subst c68
                     have H1 : (if 0 ≤ (l0_1.length : Int) then (if ((l0_1.length : Int) : Int).toNat ≤ 281474976710656 then (quinarialaw02_ChannelNarrow.l1 kj61 l1 l2 t683 x11_3 (List.replicate ((l0_1.length : Int) : Int).toNat false) 0 l0_0 l0_1) else (none)) else (none)) = some r := by rw [if_neg (show ¬ (false = true) by decide)] at H; exact H
                     clear H
                     have H := H1
                     clear H1
                     obtain ⟨c69, H⟩ := ifs H
                     have c69b0 := eq_true c69
                     have c69b1 : decide (0 ≤ (l0_1.length : Int)) = true := decide_eq_true c69
                     clear c69
                     obtain ⟨c70, H⟩ := ifs H
                     have c70b0 := eq_true c70
                     have c70b1 : decide (((l0_1.length : Int) : Int).toNat ≤ 281474976710656) = true := decide_eq_true c70
                     clear c70
                     obtain ⟨y690, hy690⟩ : ∃ y_ : List Bool, y_ = (List.replicate ((l0_1.length : Int) : Int).toNat false) := ⟨_, rfl⟩
                     rw [← hy690] at H; (try replace H := (Option.bind_some _ _).symm.trans H)
                     have Ny690 := Aside0.mk hy690
                     clear hy690
                     have H' := Aside0.mk H
                     clear H
                     have hnb71 := NB673_682.out
                     have hnc71 := NB682_673.out
                     obtain ⟨hcz72_0, hcz72_1⟩ := cz2 BK673.out
                     obtain ⟨hfz72_0, hfz72_1⟩ := fz2 BK673.out
                     go_wp2_with (first | ((with_reducible refine gate_dst (N := 102) rfl ?_); (try (refine gate_guard (by rfl) ?_; dsimp only)); refine Kd.R_make Kd.bool _ 4 rfl (N := 102) rfl 46 _ _ rfl (l0_1.length : Int) rfl rfl Tryz.underlying46 (.bool false) 1 info4 rfl (by decide) (by omega) false (ok := fun _ => True) (okp := fun _ => True) rfl (fun _ hk => hk) trivial (of_decide_eq_true (by first | (with_reducible assumption) | assumption)) (Nat.le_trans (Nat.mul_le_mul_right _ (of_decide_eq_true (by first | (with_reducible assumption) | assumption) : (l0_1.length : Int).toNat ≤ 281474976710656)) (by omega)) (Below.refl _ _) (Nat.le_refl _) ?_; intro v691 w73 ho74 hb hg_ hnew_; clear hg_ hnew_; (first | rw [← Ny690.out] at ho74 | (simp only [Int.reduceToNat] at ho74; rw [← Ny690.out] at ho74)); replace HO_9 := Aside0.mk (Kd.R_below (uR HO_9.out) hb); have HO692 := Aside0.mk (Kd.R_lower ho74 (below_size uB)); replace BK673 := Aside0.mk (blk_below (uK BK673.out) hb); replace BK682 := Aside0.mk (blk_below (uK BK682.out) hb); replace HB := Aside0.mk (below_step uB hb); clear hb ho74))
                     go_loopg [14] kj61 (fun kq v14 w' => ∃ (x13_5 : List Bool) (x14_5 : Int), v14 = .int .i64 x14_5 ∧ Aside0 (quinarialaw02_ChannelNarrow.l1 kq l1 l2 t683 x11_3 x13_5 x14_5 l0_0 l0_1 = some r) ∧ Aside0 (kq ≤ kj61) ∧ Aside0 (Kd.R (Kd.int .i64) 3 w' w.heap.size (fun _ => True) v684 t683) ∧ Aside0 (Kd.R Kd.bool 4 w' w.heap.size (fun _ => True) v691 x13_5) ∧ Aside0 (w'.heap[gb673]? = some (.cells #[(.slice A0_0 l0_0.length c0_0), (.slice A0_1 l0_1.length c0_1)] 25 (0, 0))) ∧ Aside0 (w'.heap[gb682]? = some (.cells #[.int .i64 t679, .int .i64 t680] 30 (0, 0))) ∧ Aside0 (Below w.heap.size w w'))
                     case atStart => exact ⟨(y690), (0), u0, H', ⟨Nat.le_refl _⟩, ⟨uR HO_9.out⟩, ⟨uR HO692.out⟩, ⟨uK BK673.out⟩, ⟨uK BK682.out⟩, ⟨uB⟩⟩
                     case round =>
                      as_aux_lemma =>
                       clear H'
                       try clear c1; try clear c2; try clear p2; try clear c3; try clear c4; try clear c5; try clear c6; try clear p6; try clear q6; try clear hx6; try clear c7; try clear c8; try clear c8b0; try clear c8b1; try clear c12; try clear c13; try clear c14; try clear c17; try clear c19; try clear c20; try clear c21; try clear c36; try clear c45; try clear c49; try clear c49b0; try clear c49b1; try clear c50; try clear c50b0; try clear c50b1; try clear c52; try clear c54; try clear c55; try clear c55b0; try clear c56; try clear c56b0; try clear c57; try clear c57b0; try clear c63; try clear c63b0; try clear c64; try clear p64; try clear c66; try clear c68; try clear p68; try clear q68; try clear hx68; try clear c69; try clear c69b0; try clear c69b1; try clear c70; try clear c70b0; try clear c70b1; try clear c71; try clear hcz16_0; try clear hcz16_1; try clear hcz18_0; try clear hcz18_1; try clear hcz20_0; try clear hcz20_1; try clear hcz22_0; try clear hcz22_1; try clear hcz24_0; try clear hcz24_1; try clear hcz26_0; try clear hcz26_1; try clear hcz28_0; try clear hcz28_1; try clear hcz30_0; try clear hcz30_1; try clear hcz32_0; try clear hcz32_1; try clear hcz34_0; try clear hcz34_1; try clear hcz42_0; try clear hcz42_1; try clear hcz46_0; try clear hcz46_1; try clear hcz47_0; try clear hcz47_1; try clear hcz53_0; try clear hcz53_1; try clear hcz65_0; try clear hcz65_1; try clear hcz67_0; try clear hcz67_1; try clear hcz72_0; try clear hcz72_1; try clear hcz9_0; try clear hcz9_1; try clear hfz16_0; try clear hfz16_1; try clear hfz18_0; try clear hfz18_1; try clear hfz20_0; try clear hfz20_1; try clear hfz22_0; try clear hfz22_1; try clear hfz24_0; try clear hfz24_1; try clear hfz26_0; try clear hfz26_1; try clear hfz28_0; try clear hfz28_1; try clear hfz30_0; try clear hfz30_1; try clear hfz32_0; try clear hfz32_1; try clear hfz34_0; try clear hfz34_1; try clear hfz42_0; try clear hfz42_1; try clear hfz46_0; try clear hfz46_1; try clear hfz47_0; try clear hfz47_1; try clear hfz53_0; try clear hfz53_1; try clear hfz65_0; try clear hfz65_1; try clear hfz67_0; try clear hfz67_1; try clear hfz72_0; try clear hfz72_1; try clear hfz9_0; try clear hfz9_1; try clear hx687_0; try clear hx688_0; try clear p2; try clear p6; try clear p64; try clear p687; try clear p688; try clear q6; try clear q687; try clear q688
                       obtain ⟨x13_5, x14_5, rfl, HA, HK5, HO_9, HO_13, BK673, BK682, HB⟩ := hrel
                       cases gk with
                       | zero => exact absurd HA.out (by simp [quinarialaw02_ChannelNarrow.l1])
                       | succ k5 =>
                        have H := HA.out
                        clear HA
                        simp only [quinarialaw02_ChannelNarrow.l1] at H
                        by_cases c75 : x14_5 < (t683.length : Int)
                        ·as_aux_lemma =>
                          rw [if_pos c75] at H
                          replace c75 := decide_eq_true c75
                          have HC76 := Aside0.mk H
                          clear H
                          obtain ⟨Ao77, co77, eo77⟩ := Kd.R_slice HO_9.out
                          subst eo77
                          go_upto_region 18 with (fail)
                          go_cut [131] (fun v131 wc => ∃ (kq : Nat) (x131_75 : Bool), v131 = .bool x131_75 ∧ Aside0 (quinarialaw02_ChannelNarrow.j5 kq l1 l2 t683 x11_3 x13_5 x14_5 x131_75 l0_0 l0_1 = some r) ∧ Aside0 (kq ≤ k5) ∧ Aside0 (Kd.R (Kd.int .i64) 3 wc w.heap.size (fun _ => True) (.slice Ao77 t683.length co77) t683) ∧ Aside0 (Kd.R Kd.bool 4 wc w.heap.size (fun _ => True) v691 x13_5) ∧ Aside0 (wc.heap[gb673]? = some (.cells #[(.slice A0_0 l0_0.length c0_0), (.slice A0_1 l0_1.length c0_1)] 25 (0, 0))) ∧ Aside0 (wc.heap[gb682]? = some (.cells #[.int .i64 t679, .int .i64 t680] 30 (0, 0))) ∧ Aside0 (Below w.heap.size w wc))
                          case first =>
                           as_aux_lemma =>
                            have H := HC76.out
                            clear HC76
                            obtain ⟨c78, H⟩ := ifs H
                            replace c78 := decide_eq_true c78
                            (first | rw [c78b0] | (simp only [i64_w, i32_w]; rw [c78b0]) | skip)
                            replace H := Option.bind_eq_some_iff.mp H
                            obtain ⟨t694, A790, H⟩ := H
                            replace H : (if t694 = true then (if x14_5 > 0 then (if 0 ≤ (wrap64 (x14_5 - 1)) then (if (wrap64 (x14_5 - 1)) < (t683.length : Int) then (quinarialaw02_ChannelNarrow.j5 k5 l1 l2 t683 x11_3 x13_5 x14_5 (decide ((rd t683 x14_5) ≤ (rd t683 (wrap64 (x14_5 - 1))))) l0_0 l0_1) else (none)) else (none)) else (quinarialaw02_ChannelNarrow.j5 k5 l1 l2 t683 x11_3 x13_5 x14_5 false l0_0 l0_1)) else (quinarialaw02_ChannelNarrow.j5 k5 l1 l2 t683 x11_3 x13_5 x14_5 true l0_0 l0_1)) = some r := H
                            have A79 := Aside0.mk A790
                            clear A790
                            by_cases c80 : t694 = true
                            ·as_aux_lemma =>
                              subst c80
                              have H1 : (if x14_5 > 0 then (if 0 ≤ (wrap64 (x14_5 - 1)) then (if (wrap64 (x14_5 - 1)) < (t683.length : Int) then (quinarialaw02_ChannelNarrow.j5 k5 l1 l2 t683 x11_3 x13_5 x14_5 (decide ((rd t683 x14_5) ≤ (rd t683 (wrap64 (x14_5 - 1))))) l0_0 l0_1) else (none)) else (none)) else (quinarialaw02_ChannelNarrow.j5 k5 l1 l2 t683 x11_3 x13_5 x14_5 false l0_0 l0_1)) = some r := by rw [if_pos rfl] at H; exact H
                              clear H
                              have H := H1
                              clear H1
                              by_cases c81 : x14_5 > 0
                              ·rw [if_pos c81] at H
                               replace c81 := decide_eq_true c81
                               obtain ⟨ji82, hji82⟩ : ∃ j_ : Int, (wrap64 (x14_5 - 1)) = j_ := ⟨_, rfl⟩
                               replace H : (if 0 ≤ (ji82) then (if (ji82) < (t683.length : Int) then (quinarialaw02_ChannelNarrow.j5 k5 l1 l2 t683 x11_3 x13_5 x14_5 (decide ((rd t683 x14_5) ≤ (rd t683 (ji82)))) l0_0 l0_1) else (none)) else (none)) = some r := by first | (rw [hji82] at H; exact H) | (simp only [hji82] at H ⊢; exact H)
                               (try rw [hji82] at A79)
                               have hji82w : (IntKind.i64.wrap (x14_5 - 1)) = ji82 := (i64_w _).trans hji82
                               obtain ⟨c83, H⟩ := ifs H
                               replace c83 := decide_eq_true c83
                               obtain ⟨c84, H⟩ := ifs H
                               replace c84 := decide_eq_true c84
                               have H' := Aside0.mk H
                               clear H
                               try go_wp2
                               replace HO_9 := Aside0.mk (Kd.R_drew HO_9.out)
                               replace HO_13 := Aside0.mk (Kd.R_drew HO_13.out)
                               replace BK673 := Aside0.mk (blk_drew BK673.out)
                               replace BK682 := Aside0.mk (blk_drew BK682.out)
                               replace HB := Aside0.mk (below_drew1 HB.out)
                               have p693 : 0 ≤ (x14_5 : Int) := of_decide_eq_true (by first | (with_reducible assumption) | assumption)
                               have q693 : x14_5 < (t683.length : Int) := of_decide_eq_true (by first | (with_reducible assumption) | assumption)
                               obtain ⟨ad693, e693, hx693_0⟩ := Kd.at_int (Kd.R_reads' HO_9.out).2.2 x14_5 p693 q693
                               cases e693
                               replace p693 := eq_true p693
                               replace q693 := eq_true q693
                               have p695 : 0 ≤ (x14_5 : Int) := of_decide_eq_true (by first | (with_reducible assumption) | assumption)
                               have q695 : x14_5 < (t683.length : Int) := of_decide_eq_true (by first | (with_reducible assumption) | assumption)
                               obtain ⟨ad695, e695, hx695_0⟩ := Kd.at_int (Kd.R_reads' HO_9.out).2.2 x14_5 p695 q695
                               obtain rfl : ad693 = ad695 := (by injection e695)
                               replace p695 := eq_true p695
                               replace q695 := eq_true q695
                               have p696 : 0 ≤ ((ji82) : Int) := of_decide_eq_true (by first | (with_reducible assumption) | assumption)
                               have q696 : (ji82) < (t683.length : Int) := of_decide_eq_true (by first | (with_reducible assumption) | assumption)
                               obtain ⟨ad696, e696, hx696_0⟩ := Kd.at_int (Kd.R_reads' HO_9.out).2.2 (ji82) p696 q696
                               obtain rfl : ad693 = ad696 := (by injection e696)
                               replace p696 := eq_true p696
                               replace q696 := eq_true q696
                               refine start_ (n := 23) (S := fun w' => w'.cell? ⟨gb673, 0, none⟩ = some (.slice A0_0 l0_0.length c0_0) ∧ w'.cell? ⟨gb673, 1, none⟩ = some (.slice A0_1 l0_1.length c0_1) ∧ w'.cell? (ad693.add (x14_5).toNat) = some (.int .i64 (rd t683 x14_5)) ∧ w'.cell? (ad693.add (x14_5).toNat) = some (.int .i64 (rd t683 x14_5)) ∧ w'.cell? (ad693.add ((ji82)).toNat) = some (.int .i64 (rd t683 (ji82)))) (ds := []) (bl 23 0) (by kernel_rfl) rfl rfl ⟨(blk_cell BK673.out 0).trans rfl, (blk_cell BK673.out 1).trans rfl, hx693_0, hx695_0, hx696_0⟩ (fun hHeld => ?_); refine with_tabW quinarialaw02_ChannelNarrow.tab18 quinarialaw02_ChannelNarrow.bits18 (fun HT_ HW_ => ?_)
                               generalize wr.drew = w85 at HO_9 HO_13 BK673 BK682 HB hx693_0 hx695_0 hx696_0 hHeld ⊢
                               refine pu 1 110 23 2 ?_
                               refine pu 2 111 23 6 ?_
                               refine pu 3 112 23 14 ?_
                               refine tk5 0 109 23 15 hHeld ?_
                               refine tk5 4 113 23 31 hHeld ?_
                               refine one_ (i := 5) (N := some 114) (bl 23 63) rfl rfl (one_of HT_.out (by kernel_rfl)) (by decide) (fun K hK => ?_)
                               refine goes_ Tryz.func15 (by kernel_rfl) rfl #[.agg #[.slice A0_0 l0_0.length c0_0, .slice A0_1 l0_1.length c0_1], .int .i64 (rd t683 x14_5)] (by rfl) rfl rfl uM ?_
                               with_reducible refine (quinariaref02_Number.calls _ _ l0_0 _ _ l0_1 (rd t683 x14_5) true _ ?side1 ?side2 ?side3 ?side4 A79.out).mono ?_
                               (case side1 => repeat (first | exact (Kd.C_below HR0_0.out HB.out) | (with_reducible refine Kd.C_alloc ?_ _) | (with_reducible refine Kd.C_drewN ?_ _) | (with_reducible refine Kd.C_drew ?_)))
                               (case side2 => exact HC0_0.out)
                               (case side3 => repeat (first | exact (Kd.C_below HR0_1.out HB.out) | (with_reducible refine Kd.C_alloc ?_ _) | (with_reducible refine Kd.C_drewN ?_ _) | (with_reducible refine Kd.C_drew ?_)))
                               (case side4 => exact HC0_1.out)
                               rintro e w86 ⟨rfl, hb⟩
                               have HS2_ := (hb.cell (World.block_lt_of_cell? _ _ (hHeld.2.2.1))).trans (hHeld.2.2.1)
                               have HS3_ := (hb.cell (World.block_lt_of_cell? _ _ (hHeld.2.2.2.1))).trans (hHeld.2.2.2.1)
                               have HS4_ := (hb.cell (World.block_lt_of_cell? _ _ (hHeld.2.2.2.2))).trans (hHeld.2.2.2.2)
                               refine ⟨_, rfl, ?_⟩
                               replace HO_9 := Aside0.mk (Kd.R_below (uR HO_9.out) hb)
                               replace HO_13 := Aside0.mk (Kd.R_below (uR HO_13.out) hb)
                               replace BK673 := Aside0.mk (blk_below (uK BK673.out) hb)
                               replace BK682 := Aside0.mk (blk_below (uK BK682.out) hb)
                               replace HB := Aside0.mk (below_step uB hb)
                               (try clear hb)
                               (try clear hb2)
                               (try clear hk)
                               (try clear hi)
                               refine hK.out _ _ ⟨(blk_cell BK673.out 0).trans rfl, (blk_cell BK673.out 1).trans rfl, HS2_, HS3_, HS4_⟩ (fun hHeld => ?_)
                               clear hK K
                               refine nm ?_
                               refine pu 6 115 23 127 ?_
                               refine pu 7 116 23 255 ?_
                               refine pu 8 117 23 511 ?_
                               refine pu 9 118 23 1023 ?_
                               refine pu 10 119 23 2047 ?_
                               refine pu 11 120 23 4095 ?_
                               refine pu 12 121 23 8191 ?_
                               refine pu 13 122 23 16383 ?_
                               refine pu 15 124 23 49151 ?_
                               refine pu 16 125 23 114687 ?_
                               refine pu 17 126 23 245759 ?_
                               refine pu 18 127 23 507903 ?_
                               refine tk5 14 123 23 524287 hHeld ?_
                               refine tk5 19 128 23 1048575 hHeld ?_
                               refine pu 20 129 23 2097151 ?_
                               refine pu 21 130 23 4194303 ?_
                               refine pu 22 131 23 8388607 ?_
                               refine done_ (done_of HT_.out (by kernel_rfl)) ?_
                               try go_wp2
                               go_meet
                               case rel => exact ⟨_, (decide ((rd t683 x14_5) ≤ (rd t683 (ji82)))), (by first | rfl | (simp; done) | (simp only [← hji82] <;> (first | rfl | simp)) | (simp [*]; done)), H', ⟨by have := HJ3.out; have := HJ40.out; have := HK3.out; have := HJ61.out; have := HK5.out; first | omega | exact Nat.le_refl _⟩, ⟨uR HO_9.out⟩, ⟨uR HO_13.out⟩, ⟨uK BK673.out⟩, ⟨uK BK682.out⟩, ⟨uB⟩⟩
                              ·rw [if_neg c81] at H
                               replace c81 := decide_eq_false c81
                               have H' := Aside0.mk H
                               clear H
                               try go_wp2
                               replace HO_9 := Aside0.mk (Kd.R_drew HO_9.out)
                               replace HO_13 := Aside0.mk (Kd.R_drew HO_13.out)
                               replace BK673 := Aside0.mk (blk_drew BK673.out)
                               replace BK682 := Aside0.mk (blk_drew BK682.out)
                               replace HB := Aside0.mk (below_drew1 HB.out)
                               have p693 : 0 ≤ (x14_5 : Int) := of_decide_eq_true (by first | (with_reducible assumption) | assumption)
                               have q693 : x14_5 < (t683.length : Int) := of_decide_eq_true (by first | (with_reducible assumption) | assumption)
                               obtain ⟨ad693, e693, hx693_0⟩ := Kd.at_int (Kd.R_reads' HO_9.out).2.2 x14_5 p693 q693
                               cases e693
                               replace p693 := eq_true p693
                               replace q693 := eq_true q693
                               refine start_ (n := 23) (S := fun w' => w'.cell? ⟨gb673, 0, none⟩ = some (.slice A0_0 l0_0.length c0_0) ∧ w'.cell? ⟨gb673, 1, none⟩ = some (.slice A0_1 l0_1.length c0_1) ∧ w'.cell? (ad693.add (x14_5).toNat) = some (.int .i64 (rd t683 x14_5))) (ds := []) (bl 23 0) (by kernel_rfl) rfl rfl ⟨(blk_cell BK673.out 0).trans rfl, (blk_cell BK673.out 1).trans rfl, hx693_0⟩ (fun hHeld => ?_); refine with_tabW quinarialaw02_ChannelNarrow.tab18 quinarialaw02_ChannelNarrow.bits18 (fun HT_ HW_ => ?_)
                               generalize wr.drew = w87 at HO_9 HO_13 BK673 BK682 HB hx693_0 hHeld ⊢
                               refine pu 1 110 23 2 ?_
                               refine pu 2 111 23 6 ?_
                               refine pu 3 112 23 14 ?_
                               refine tk3 0 109 23 15 hHeld ?_
                               refine tk3 4 113 23 31 hHeld ?_
                               refine one_ (i := 5) (N := some 114) (bl 23 63) rfl rfl (one_of HT_.out (by kernel_rfl)) (by decide) (fun K hK => ?_)
                               refine goes_ Tryz.func15 (by kernel_rfl) rfl #[.agg #[.slice A0_0 l0_0.length c0_0, .slice A0_1 l0_1.length c0_1], .int .i64 (rd t683 x14_5)] (by rfl) rfl rfl uM ?_
                               with_reducible refine (quinariaref02_Number.calls _ _ l0_0 _ _ l0_1 (rd t683 x14_5) true _ ?side1 ?side2 ?side3 ?side4 A79.out).mono ?_
                               (case side1 => repeat (first | exact (Kd.C_below HR0_0.out HB.out) | (with_reducible refine Kd.C_alloc ?_ _) | (with_reducible refine Kd.C_drewN ?_ _) | (with_reducible refine Kd.C_drew ?_)))
                               (case side2 => exact HC0_0.out)
                               (case side3 => repeat (first | exact (Kd.C_below HR0_1.out HB.out) | (with_reducible refine Kd.C_alloc ?_ _) | (with_reducible refine Kd.C_drewN ?_ _) | (with_reducible refine Kd.C_drew ?_)))
                               (case side4 => exact HC0_1.out)
                               rintro e w88 ⟨rfl, hb⟩
                               have HS2_ := (hb.cell (World.block_lt_of_cell? _ _ (hHeld.2.2))).trans (hHeld.2.2)
                               refine ⟨_, rfl, ?_⟩
                               replace HO_9 := Aside0.mk (Kd.R_below (uR HO_9.out) hb)
                               replace HO_13 := Aside0.mk (Kd.R_below (uR HO_13.out) hb)
                               replace BK673 := Aside0.mk (blk_below (uK BK673.out) hb)
                               replace BK682 := Aside0.mk (blk_below (uK BK682.out) hb)
                               replace HB := Aside0.mk (below_step uB hb)
                               (try clear hb)
                               (try clear hb2)
                               (try clear hk)
                               (try clear hi)
                               refine hK.out _ _ ⟨(blk_cell BK673.out 0).trans rfl, (blk_cell BK673.out 1).trans rfl, HS2_⟩ (fun hHeld => ?_)
                               clear hK K
                               refine nm ?_
                               refine pu 6 115 23 127 ?_
                               refine pu 7 116 23 255 ?_
                               refine pu 8 117 23 511 ?_
                               refine pu 9 118 23 1023 ?_
                               refine pu 10 119 23 2047 ?_
                               refine pure_ (i := 11) (N := some 120) (v := undef) (a' := ?_) (bl 23 4095) rfl rfl (any_of HT_.out (by kernel_rfl)) (fun _ _ _ h => h) (Or.inr ⟨by rfl, rfl⟩) ?_ ?_
                               rotate_left
                               ·simp only [Act.put, List.setIfInBounds_toArray, List.set_cons_zero, List.set_cons_succ, i64_w, i32_w]
                                rfl
                               refine pure_ (i := 12) (N := some 121) (v := undef) (a' := ?_) (bl 23 8191) rfl rfl (any_of HT_.out (by kernel_rfl)) (fun _ _ _ h => h) (Or.inr ⟨by rfl, rfl⟩) ?_ ?_
                               rotate_left
                               ·simp only [Act.put, List.setIfInBounds_toArray, List.set_cons_zero, List.set_cons_succ, i64_w, i32_w]
                                rfl
                               refine pure_ (i := 13) (N := some 122) (v := undef) (a' := ?_) (bl 23 16383) rfl rfl (any_of HT_.out (by kernel_rfl)) (fun _ _ _ h => h) (Or.inr ⟨by rfl, rfl⟩) ?_ ?_
                               rotate_left
                               ·simp only [Act.put, List.setIfInBounds_toArray, List.set_cons_zero, List.set_cons_succ, i64_w, i32_w]
                                rfl
                               refine pure_ (i := 14) (N := some 123) (v := undef) (a' := ?_) (bl 23 32767) rfl rfl (any_of HT_.out (by kernel_rfl)) (fun _ _ _ h => h) (Or.inr ⟨by rfl, rfl⟩) ?_ ?_
                               rotate_left
                               ·simp only [Act.put, List.setIfInBounds_toArray, List.set_cons_zero, List.set_cons_succ, i64_w, i32_w]
                                rfl
                               refine pure_ (i := 15) (N := some 124) (v := undef) (a' := ?_) (bl 23 65535) rfl rfl (any_of HT_.out (by kernel_rfl)) (fun _ _ _ h => h) (Or.inr ⟨by rfl, rfl⟩) ?_ ?_
                               rotate_left
                               ·simp only [Act.put, List.setIfInBounds_toArray, List.set_cons_zero, List.set_cons_succ, i64_w, i32_w]
                                rfl
                               refine pure_ (i := 16) (N := some 125) (v := undef) (a' := ?_) (bl 23 131071) rfl rfl (any_of HT_.out (by kernel_rfl)) (fun _ _ _ h => h) (Or.inr ⟨by rfl, rfl⟩) ?_ ?_
                               rotate_left
                               ·simp only [Act.put, List.setIfInBounds_toArray, List.set_cons_zero, List.set_cons_succ, i64_w, i32_w]
                                rfl
                               refine pure_ (i := 17) (N := some 126) (v := undef) (a' := ?_) (bl 23 262143) rfl rfl (any_of HT_.out (by kernel_rfl)) (fun _ _ _ h => h) (Or.inr ⟨by rfl, rfl⟩) ?_ ?_
                               rotate_left
                               ·simp only [Act.put, List.setIfInBounds_toArray, List.set_cons_zero, List.set_cons_succ, i64_w, i32_w]
                                rfl
                               refine pure_ (i := 18) (N := some 127) (v := undef) (a' := ?_) (bl 23 524287) rfl rfl (any_of HT_.out (by kernel_rfl)) (fun _ _ _ h => h) (Or.inr ⟨by rfl, rfl⟩) ?_ ?_
                               rotate_left
                               ·simp only [Act.put, List.setIfInBounds_toArray, List.set_cons_zero, List.set_cons_succ, i64_w, i32_w]
                                rfl
                               refine pure_ (i := 19) (N := some 128) (v := undef) (a' := ?_) (bl 23 1048575) rfl rfl (any_of HT_.out (by kernel_rfl)) (fun _ _ _ h => h) (Or.inr ⟨by rfl, rfl⟩) ?_ ?_
                               rotate_left
                               ·simp only [Act.put, List.setIfInBounds_toArray, List.set_cons_zero, List.set_cons_succ, i64_w, i32_w]
                                rfl
                               refine pure_ (i := 20) (N := some 129) (v := undef) (a' := ?_) (bl 23 2097151) rfl rfl (any_of HT_.out (by kernel_rfl)) (fun _ _ _ h => h) (Or.inr ⟨by rfl, rfl⟩) ?_ ?_
                               rotate_left
                               ·simp only [Act.put, List.setIfInBounds_toArray, List.set_cons_zero, List.set_cons_succ, i64_w, i32_w]
                                rfl
                               refine pu 21 130 23 4194303 ?_
                               refine pu 22 131 23 8388607 ?_
                               refine done_ (done_of HT_.out (by kernel_rfl)) ?_
                               try go_wp2
                               go_meet
                               case rel => exact ⟨_, (false), u0, H', ⟨by have := HJ3.out; have := HJ40.out; have := HK3.out; have := HJ61.out; have := HK5.out; first | omega | exact Nat.le_refl _⟩, ⟨uR HO_9.out⟩, ⟨uR HO_13.out⟩, ⟨uK BK673.out⟩, ⟨uK BK682.out⟩, ⟨uB⟩⟩
                            ·replace c80 := Bool.eq_false_iff.mpr c80
                             subst c80
                             have H1 : (quinarialaw02_ChannelNarrow.j5 k5 l1 l2 t683 x11_3 x13_5 x14_5 true l0_0 l0_1) = some r := by rw [if_neg (show ¬ (false = true) by decide)] at H; exact H
                             clear H
                             have H := H1
                             clear H1
                             have H' := Aside0.mk H
                             clear H
                             try go_wp2
                             replace HO_9 := Aside0.mk (Kd.R_drew HO_9.out)
                             replace HO_13 := Aside0.mk (Kd.R_drew HO_13.out)
                             replace BK673 := Aside0.mk (blk_drew BK673.out)
                             replace BK682 := Aside0.mk (blk_drew BK682.out)
                             replace HB := Aside0.mk (below_drew1 HB.out)
                             have p693 : 0 ≤ (x14_5 : Int) := of_decide_eq_true (by first | (with_reducible assumption) | assumption)
                             have q693 : x14_5 < (t683.length : Int) := of_decide_eq_true (by first | (with_reducible assumption) | assumption)
                             obtain ⟨ad693, e693, hx693_0⟩ := Kd.at_int (Kd.R_reads' HO_9.out).2.2 x14_5 p693 q693
                             cases e693
                             replace p693 := eq_true p693
                             replace q693 := eq_true q693
                             refine start_ (n := 23) (S := fun w' => w'.cell? ⟨gb673, 0, none⟩ = some (.slice A0_0 l0_0.length c0_0) ∧ w'.cell? ⟨gb673, 1, none⟩ = some (.slice A0_1 l0_1.length c0_1) ∧ w'.cell? (ad693.add (x14_5).toNat) = some (.int .i64 (rd t683 x14_5))) (ds := []) (bl 23 0) (by kernel_rfl) rfl rfl ⟨(blk_cell BK673.out 0).trans rfl, (blk_cell BK673.out 1).trans rfl, hx693_0⟩ (fun hHeld => ?_); refine with_tabW quinarialaw02_ChannelNarrow.tab18 quinarialaw02_ChannelNarrow.bits18 (fun HT_ HW_ => ?_)
                             generalize wr.drew = w89 at HO_9 HO_13 BK673 BK682 HB hx693_0 hHeld ⊢
                             refine pu 1 110 23 2 ?_
                             refine pu 2 111 23 6 ?_
                             refine pu 3 112 23 14 ?_
                             refine tk3 0 109 23 15 hHeld ?_
                             refine tk3 4 113 23 31 hHeld ?_
                             refine one_ (i := 5) (N := some 114) (bl 23 63) rfl rfl (one_of HT_.out (by kernel_rfl)) (by decide) (fun K hK => ?_)
                             refine goes_ Tryz.func15 (by kernel_rfl) rfl #[.agg #[.slice A0_0 l0_0.length c0_0, .slice A0_1 l0_1.length c0_1], .int .i64 (rd t683 x14_5)] (by rfl) rfl rfl uM ?_
                             with_reducible refine (quinariaref02_Number.calls _ _ l0_0 _ _ l0_1 (rd t683 x14_5) false _ ?side1 ?side2 ?side3 ?side4 A79.out).mono ?_
                             (case side1 => repeat (first | exact (Kd.C_below HR0_0.out HB.out) | (with_reducible refine Kd.C_alloc ?_ _) | (with_reducible refine Kd.C_drewN ?_ _) | (with_reducible refine Kd.C_drew ?_)))
                             (case side2 => exact HC0_0.out)
                             (case side3 => repeat (first | exact (Kd.C_below HR0_1.out HB.out) | (with_reducible refine Kd.C_alloc ?_ _) | (with_reducible refine Kd.C_drewN ?_ _) | (with_reducible refine Kd.C_drew ?_)))
                             (case side4 => exact HC0_1.out)
                             rintro e w90 ⟨rfl, hb⟩
                             have HS2_ := (hb.cell (World.block_lt_of_cell? _ _ (hHeld.2.2))).trans (hHeld.2.2)
                             refine ⟨_, rfl, ?_⟩
                             replace HO_9 := Aside0.mk (Kd.R_below (uR HO_9.out) hb)
                             replace HO_13 := Aside0.mk (Kd.R_below (uR HO_13.out) hb)
                             replace BK673 := Aside0.mk (blk_below (uK BK673.out) hb)
                             replace BK682 := Aside0.mk (blk_below (uK BK682.out) hb)
                             replace HB := Aside0.mk (below_step uB hb)
                             (try clear hb)
                             (try clear hb2)
                             (try clear hk)
                             (try clear hi)
                             refine hK.out _ _ ⟨(blk_cell BK673.out 0).trans rfl, (blk_cell BK673.out 1).trans rfl, HS2_⟩ (fun hHeld => ?_)
                             clear hK K
                             refine nm ?_
                             refine pu 6 115 23 127 ?_
                             refine pu 7 116 23 255 ?_
                             refine pure_ (i := 8) (N := some 117) (v := undef) (a' := ?_) (bl 23 511) rfl rfl (any_of HT_.out (by kernel_rfl)) (fun _ _ _ h => h) (Or.inr ⟨by rfl, rfl⟩) ?_ ?_
                             rotate_left
                             ·simp only [Act.put, List.setIfInBounds_toArray, List.set_cons_zero, List.set_cons_succ, i64_w, i32_w]
                              rfl
                             refine pure_ (i := 9) (N := some 118) (v := undef) (a' := ?_) (bl 23 1023) rfl rfl (any_of HT_.out (by kernel_rfl)) (fun _ _ _ h => h) (Or.inr ⟨by rfl, rfl⟩) ?_ ?_
                             rotate_left
                             ·simp only [Act.put, List.setIfInBounds_toArray, List.set_cons_zero, List.set_cons_succ, i64_w, i32_w]
                              rfl
                             refine pure_ (i := 10) (N := some 119) (v := undef) (a' := ?_) (bl 23 2047) rfl rfl (any_of HT_.out (by kernel_rfl)) (fun _ _ _ h => h) (Or.inr ⟨by rfl, rfl⟩) ?_ ?_
                             rotate_left
                             ·simp only [Act.put, List.setIfInBounds_toArray, List.set_cons_zero, List.set_cons_succ, i64_w, i32_w]
                              rfl
                             refine pure_ (i := 11) (N := some 120) (v := undef) (a' := ?_) (bl 23 4095) rfl rfl (any_of HT_.out (by kernel_rfl)) (fun _ _ _ h => h) (Or.inr ⟨by rfl, rfl⟩) ?_ ?_
                             rotate_left
                             ·simp only [Act.put, List.setIfInBounds_toArray, List.set_cons_zero, List.set_cons_succ, i64_w, i32_w]
                              rfl
                             refine pure_ (i := 12) (N := some 121) (v := undef) (a' := ?_) (bl 23 8191) rfl rfl (any_of HT_.out (by kernel_rfl)) (fun _ _ _ h => h) (Or.inr ⟨by rfl, rfl⟩) ?_ ?_
                             rotate_left
                             ·simp only [Act.put, List.setIfInBounds_toArray, List.set_cons_zero, List.set_cons_succ, i64_w, i32_w]
                              rfl
                             refine pure_ (i := 13) (N := some 122) (v := undef) (a' := ?_) (bl 23 16383) rfl rfl (any_of HT_.out (by kernel_rfl)) (fun _ _ _ h => h) (Or.inr ⟨by rfl, rfl⟩) ?_ ?_
                             rotate_left
                             ·simp only [Act.put, List.setIfInBounds_toArray, List.set_cons_zero, List.set_cons_succ, i64_w, i32_w]
                              rfl
                             refine pure_ (i := 14) (N := some 123) (v := undef) (a' := ?_) (bl 23 32767) rfl rfl (any_of HT_.out (by kernel_rfl)) (fun _ _ _ h => h) (Or.inr ⟨by rfl, rfl⟩) ?_ ?_
                             rotate_left
                             ·simp only [Act.put, List.setIfInBounds_toArray, List.set_cons_zero, List.set_cons_succ, i64_w, i32_w]
                              rfl
                             refine pure_ (i := 15) (N := some 124) (v := undef) (a' := ?_) (bl 23 65535) rfl rfl (any_of HT_.out (by kernel_rfl)) (fun _ _ _ h => h) (Or.inr ⟨by rfl, rfl⟩) ?_ ?_
                             rotate_left
                             ·simp only [Act.put, List.setIfInBounds_toArray, List.set_cons_zero, List.set_cons_succ, i64_w, i32_w]
                              rfl
                             refine pure_ (i := 16) (N := some 125) (v := undef) (a' := ?_) (bl 23 131071) rfl rfl (any_of HT_.out (by kernel_rfl)) (fun _ _ _ h => h) (Or.inr ⟨by rfl, rfl⟩) ?_ ?_
                             rotate_left
                             ·simp only [Act.put, List.setIfInBounds_toArray, List.set_cons_zero, List.set_cons_succ, i64_w, i32_w]
                              rfl
                             refine pure_ (i := 17) (N := some 126) (v := undef) (a' := ?_) (bl 23 262143) rfl rfl (any_of HT_.out (by kernel_rfl)) (fun _ _ _ h => h) (Or.inr ⟨by rfl, rfl⟩) ?_ ?_
                             rotate_left
                             ·simp only [Act.put, List.setIfInBounds_toArray, List.set_cons_zero, List.set_cons_succ, i64_w, i32_w]
                              rfl
                             refine pure_ (i := 18) (N := some 127) (v := undef) (a' := ?_) (bl 23 524287) rfl rfl (any_of HT_.out (by kernel_rfl)) (fun _ _ _ h => h) (Or.inr ⟨by rfl, rfl⟩) ?_ ?_
                             rotate_left
                             ·simp only [Act.put, List.setIfInBounds_toArray, List.set_cons_zero, List.set_cons_succ, i64_w, i32_w]
                              rfl
                             refine pure_ (i := 19) (N := some 128) (v := undef) (a' := ?_) (bl 23 1048575) rfl rfl (any_of HT_.out (by kernel_rfl)) (fun _ _ _ h => h) (Or.inr ⟨by rfl, rfl⟩) ?_ ?_
                             rotate_left
                             ·simp only [Act.put, List.setIfInBounds_toArray, List.set_cons_zero, List.set_cons_succ, i64_w, i32_w]
                              rfl
                             refine pure_ (i := 20) (N := some 129) (v := undef) (a' := ?_) (bl 23 2097151) rfl rfl (any_of HT_.out (by kernel_rfl)) (fun _ _ _ h => h) (Or.inr ⟨by rfl, rfl⟩) ?_ ?_
                             rotate_left
                             ·simp only [Act.put, List.setIfInBounds_toArray, List.set_cons_zero, List.set_cons_succ, i64_w, i32_w]
                              rfl
                             refine pure_ (i := 21) (N := some 130) (v := undef) (a' := ?_) (bl 23 4194303) rfl rfl (any_of HT_.out (by kernel_rfl)) (fun _ _ _ h => h) (Or.inr ⟨by rfl, rfl⟩) ?_ ?_
                             rotate_left
                             ·simp only [Act.put, List.setIfInBounds_toArray, List.set_cons_zero, List.set_cons_succ, i64_w, i32_w]
                              rfl
                             refine pu 22 131 23 8388607 ?_
                             refine done_ (done_of HT_.out (by kernel_rfl)) ?_
                             try go_wp2
                             go_meet
                             case rel => exact ⟨_, (true), u0, H', ⟨by have := HJ3.out; have := HJ40.out; have := HK3.out; have := HJ61.out; have := HK5.out; first | omega | exact Nat.le_refl _⟩, ⟨uR HO_9.out⟩, ⟨uR HO_13.out⟩, ⟨uK BK673.out⟩, ⟨uK BK682.out⟩, ⟨uB⟩⟩
                          case rest =>
                           as_aux_lemma =>
                            clear HC76; try clear c1; try clear p2; try clear p6; try clear q6; try clear hx6; try clear c7; try clear c8; try clear c15; try clear p69; try clear q69; try clear hx69; try clear c78; try clear c80; try clear c81; try clear c81b0; try clear c83; try clear c84; try clear hx693_0; try clear p693; try clear q693
                            obtain ⟨kq, x131_75, rfl, HA, HJ75, HO_9, HO_13, BK673, BK682, HB⟩ := hcut
                            cases kq with
                            | zero => exact absurd HA.out (by simp [quinarialaw02_ChannelNarrow.j5])
                            | succ kj75 =>
                             have H := HA.out
                             clear HA
                             simp only [quinarialaw02_ChannelNarrow.j5] at H
                             by_cases c91 : x131_75 = true
                             ·subst c91
                              have H1 : (some false) = some r := by rw [if_pos rfl] at H; exact H
                              clear H
                              have H := H1
                              clear H1
                              obtain rfl := Option.some.inj H
                              go_wp2
                              go_ret
                              exact ⟨uE, uB⟩
                             ·as_aux_lemma =>
                               replace c91 := Bool.eq_false_iff.mpr c91
                               subst c91
                               have H1 : (if 0 ≤ x14_5 then (if x14_5 < (t683.length : Int) then (if 0 ≤ (rd t683 x14_5) then (if (rd t683 x14_5) < (x13_5.length : Int) then (if (rd t683 x14_5) < (l1.length : Int) then (if (rd t683 x14_5) < (l0_1.length : Int) then ((quinariaref02_Cups.f l0_0 l0_1 (rd t683 x14_5) (rd l1 (rd t683 x14_5)) ((rd_T32 l0_1 (rd t683 x14_5)).f3.f1)).bind fun t704 => (quinarialaw02_ChannelNarrow.l2 kj75 l1 l2 t683 x11_3 (x13_5.set ((rd t683 x14_5) : Int).toNat true) x14_5 t704 0 l0_0 l0_1)) else (none)) else (none)) else (none)) else (none)) else (none)) else (none)) = some r := by rw [if_neg (show ¬ (false = true) by decide)] at H; exact H
                               clear H
                               have H := H1
                               clear H1
                               obtain ⟨c92, H⟩ := ifs H
                               replace c92 := decide_eq_true c92
                               obtain ⟨c93, H⟩ := ifs H
                               replace c93 := decide_eq_true c93
                               obtain ⟨c94, H⟩ := ifs H
                               replace c94 := decide_eq_true c94
                               obtain ⟨c95, H⟩ := ifs H
                               replace c95 := decide_eq_true c95
                               obtain ⟨y698, hy698⟩ : ∃ y_ : List Bool, y_ = (x13_5.set ((rd t683 x14_5) : Int).toNat true) := ⟨_, rfl⟩
                               rw [← hy698] at H; (try replace H := (Option.bind_some _ _).symm.trans H)
                               have Ny698 := Aside0.mk hy698
                               clear hy698
                               obtain ⟨c97, H⟩ := ifs H
                               replace c97 := decide_eq_true c97
                               obtain ⟨c98, H⟩ := ifs H
                               replace c98 := decide_eq_true c98
                               replace H := Option.bind_eq_some_iff.mp H
                               obtain ⟨t704, A990, H⟩ := H
                               replace H : (quinarialaw02_ChannelNarrow.l2 kj75 l1 l2 t683 x11_3 y698 x14_5 t704 0 l0_0 l0_1) = some r := H
                               have A99 := Aside0.mk A990
                               clear A990
                               have H' := Aside0.mk H
                               clear H
                               have p697 : 0 ≤ (x14_5 : Int) := of_decide_eq_true (by first | (with_reducible assumption) | assumption)
                               have q697 : x14_5 < (t683.length : Int) := of_decide_eq_true (by first | (with_reducible assumption) | assumption)
                               obtain ⟨ad697, e697, hx697_0⟩ := Kd.at_int (Kd.R_reads' HO_9.out).2.2 x14_5 p697 q697
                               cases e697
                               replace p697 := eq_true p697
                               replace q697 := eq_true q697
                               have p96 : 0 ≤ ((rd t683 x14_5) : Int) := of_decide_eq_true (by first | (with_reducible assumption) | assumption)
                               have q96 : ((rd t683 x14_5) : Int) < ((x13_5.length : Int) : Int) := of_decide_eq_true (by first | (with_reducible assumption) | assumption)
                               obtain ⟨go96, co96, eo96, gb96, gl96, cl96, HG96⟩ := Kd.R_form HO_13.out (by omega)
                               (first | cases eo96 | (injection eo96 with ea_ en_ ec_; (first | subst ea_ | (injection ea_ with ea_; subst ea_)); subst ec_; clear en_))
                               have GB96 := Aside0.mk gb96
                               have GG96 := Aside0.mk HG96
                               clear gb96 gl96 HG96
                               obtain ⟨hx96_0, hf96_0⟩ := Kd.R_celln false HO_13.out ((rd t683 x14_5) : Int) p96 q96
                               replace p96 := eq_true p96
                               replace q96 := eq_true q96
                               have HP100 := Kd.R_putg HO_13.out ((rd t683 x14_5) : Int) true
                               try go_wp2_with (first | ((with_reducible refine gate_store (t := 4) (p := 137) rfl ?_); refine store_event (t := 4) (p := 137) (v := ?vo_w101) (w1 := (wc.setCell ⟨go96, ((rd t683 x14_5) : Int).toNat, none⟩ (.bool true))) ?hg ?ho ?hn ?hr ?_; (case ho => rfl); (case hg => rfl); (case hn => rfl); (case hr => first | (go_simp; done) | (go_simp; rfl)); intro w101 hw; have hg : wc.grownBy w101 (some go96) := (by rw [hw]; exact HP100.2); have hp_ : Kd.R Kd.bool 4 w101 w.heap.size (fun _ => True) (.slice (some ⟨go96, 0, none⟩) x13_5.length co96) y698 := (by rw [hw, Ny698.out]; exact HP100.1); clear HP100; have n0_ := Aside0.mk (Kd.R_over' (v := (.slice (some ⟨go96, 0, none⟩) x13_5.length co96)) (uR HO_9.out) (Kd.R_typed HO_13.out) (by decide) hg); have n1_ := Aside0.mk (hp_); have n2_ := Aside0.mk (blk_grown (uK BK673.out) hg (Kd.R_ne HO_13.out BK673.out (by decide))); have n3_ := Aside0.mk (blk_grown (uK BK682.out) hg (Kd.R_ne HO_13.out BK682.out (by decide))); have n4_ := Aside0.mk ((by rw [hw]; exact below_set (HB.out) GB96.out : Below w.heap.size w w101)); clear HO_9; clear HO_13; clear BK673; clear BK682; clear HB; have HO_9 := n0_; have HO_13 := n1_; have BK673 := n2_; have BK682 := n3_; have HB := n4_; clear n0_ n1_ n2_ n3_ n4_; clear hg hw hp_))
                               replace HO_9 := Aside0.mk (Kd.R_drew HO_9.out)
                               replace HO_13 := Aside0.mk (Kd.R_drew HO_13.out)
                               replace BK673 := Aside0.mk (blk_drew BK673.out)
                               replace BK682 := Aside0.mk (blk_drew BK682.out)
                               replace HB := Aside0.mk (below_drew1 HB.out)
                               have p699 : 0 ≤ (x14_5 : Int) := of_decide_eq_true (by first | (with_reducible assumption) | assumption)
                               have q699 : x14_5 < (t683.length : Int) := of_decide_eq_true (by first | (with_reducible assumption) | assumption)
                               obtain ⟨ad699, e699, hx699_0⟩ := Kd.at_int (Kd.R_reads' HO_9.out).2.2 x14_5 p699 q699
                               obtain rfl : ad697 = ad699 := (by injection e699)
                               replace p699 := eq_true p699
                               replace q699 := eq_true q699
                               have p700 : 0 ≤ (x14_5 : Int) := of_decide_eq_true (by first | (with_reducible assumption) | assumption)
                               have q700 : x14_5 < (t683.length : Int) := of_decide_eq_true (by first | (with_reducible assumption) | assumption)
                               obtain ⟨ad700, e700, hx700_0⟩ := Kd.at_int (Kd.R_reads' HO_9.out).2.2 x14_5 p700 q700
                               obtain rfl : ad697 = ad700 := (by injection e700)
                               replace p700 := eq_true p700
                               replace q700 := eq_true q700
                               have p701 : 0 ≤ ((rd t683 x14_5) : Int) := of_decide_eq_true (by first | (with_reducible assumption) | assumption)
                               have q701 : (rd t683 x14_5) < (l1.length : Int) := of_decide_eq_true (by first | (with_reducible assumption) | assumption)
                               obtain ⟨ad701, e701, hx701_0⟩ := Kd.at_int HR1.out (rd t683 x14_5) p701 q701
                               have hw701_0 := hx701_0
                               cases e701
                               replace hx701_0 := hcell HB.out hx701_0
                               replace p701 := eq_true p701
                               replace q701 := eq_true q701
                               have p702 : 0 ≤ (x14_5 : Int) := of_decide_eq_true (by first | (with_reducible assumption) | assumption)
                               have q702 : x14_5 < (t683.length : Int) := of_decide_eq_true (by first | (with_reducible assumption) | assumption)
                               obtain ⟨ad702, e702, hx702_0⟩ := Kd.at_int (Kd.R_reads' HO_9.out).2.2 x14_5 p702 q702
                               obtain rfl : ad697 = ad702 := (by injection e702)
                               replace p702 := eq_true p702
                               replace q702 := eq_true q702
                               have p703 : 0 ≤ ((rd t683 x14_5) : Int) := of_decide_eq_true (by first | (with_reducible assumption) | assumption)
                               have q703 : (rd t683 x14_5) < (l0_1.length : Int) := of_decide_eq_true (by first | (with_reducible assumption) | assumption)
                               obtain ⟨ad703, e703, hx703_0, hx703_1, hx703_2, hx703_3, hx703_4⟩ := at_T32 HR0_1.out (rd t683 x14_5) p703 q703
                               have hw703_4 := hx703_4
                               have hw703_3 := hx703_3
                               have hw703_2 := hx703_2
                               have hw703_1 := hx703_1
                               have hw703_0 := hx703_0
                               cases e703
                               replace hx703_0 := hcell HB.out hx703_0
                               replace hx703_1 := hcell HB.out hx703_1
                               replace hx703_2 := hcell HB.out hx703_2
                               replace hx703_3 := hcell HB.out hx703_3
                               replace hx703_4 := hcell HB.out hx703_4
                               replace p703 := eq_true p703
                               replace q703 := eq_true q703
                               refine start_ (n := 24) (S := fun w' => w'.cell? ⟨gb673, 0, none⟩ = some (.slice A0_0 l0_0.length c0_0) ∧ w'.cell? ⟨gb673, 1, none⟩ = some (.slice (some ad703) l0_1.length c0_1) ∧ w'.cell? (ad697.add (x14_5).toNat) = some (.int .i64 (rd t683 x14_5)) ∧ w'.cell? (ad697.add (x14_5).toNat) = some (.int .i64 (rd t683 x14_5)) ∧ w'.cell? (ad701.add ((rd t683 x14_5)).toNat) = some (.int .i64 (rd l1 (rd t683 x14_5))) ∧ w'.cell? (ad697.add (x14_5).toNat) = some (.int .i64 (rd t683 x14_5)) ∧ w'.cell? (ad703.add (((rd t683 x14_5)).toNat * 5)) = some (.int .i64 ((rd_T32 l0_1 (rd t683 x14_5)).f0)) ∧ w'.cell? ⟨(ad703.add (((rd t683 x14_5)).toNat * 5)).block, (ad703.add (((rd t683 x14_5)).toNat * 5)).off + 1, none⟩ = some (.int .i64 ((rd_T32 l0_1 (rd t683 x14_5)).f1)) ∧ w'.cell? ⟨(ad703.add (((rd t683 x14_5)).toNat * 5)).block, (ad703.add (((rd t683 x14_5)).toNat * 5)).off + 2, none⟩ = some (.int .i64 ((rd_T32 l0_1 (rd t683 x14_5)).f2)) ∧ w'.cell? ⟨(ad703.add (((rd t683 x14_5)).toNat * 5)).block, (ad703.add (((rd t683 x14_5)).toNat * 5)).off + 3, none⟩ = some (.int .i64 ((rd_T32 l0_1 (rd t683 x14_5)).f3.f0)) ∧ w'.cell? ⟨(ad703.add (((rd t683 x14_5)).toNat * 5)).block, (ad703.add (((rd t683 x14_5)).toNat * 5)).off + 4, none⟩ = some (.int .i64 ((rd_T32 l0_1 (rd t683 x14_5)).f3.f1))) (ds := []) (bl 24 0) (by kernel_rfl) rfl rfl ⟨(blk_cell BK673.out 0).trans rfl, (blk_cell BK673.out 1).trans rfl, hx699_0, hx700_0, (hcell HB.out hw701_0), hx702_0, (hcell HB.out hw703_0), (hcell HB.out hw703_1), (hcell HB.out hw703_2), (hcell HB.out hw703_3), (hcell HB.out hw703_4)⟩ (fun hHeld => ?_); refine with_tabW quinarialaw02_ChannelNarrow.tab21 quinarialaw02_ChannelNarrow.bits21 (fun HT_ HW_ => ?_)
                               generalize w101.drew = w102 at HO_9 HO_13 BK673 BK682 HB hx699_0 hx700_0 hx701_0 hx702_0 hx703_0 hx703_1 hx703_2 hx703_3 hx703_4 hHeld ⊢
                               refine pu 1 139 24 2 ?_
                               refine pu 2 140 24 6 ?_
                               refine pu 3 141 24 14 ?_
                               refine pu 5 143 24 46 ?_
                               refine pu 6 144 24 110 ?_
                               refine pu 7 145 24 238 ?_
                               refine pu 8 146 24 494 ?_
                               refine pu 12 150 24 4590 ?_
                               refine pu 14 152 24 20974 ?_
                               refine pu 15 153 24 53742 ?_
                               refine pu 16 154 24 119278 ?_
                               refine tk11 0 138 24 119279 hHeld ?_
                               refine tk11 4 142 24 119295 hHeld ?_
                               refine tk11 9 147 24 119807 hHeld ?_
                               refine pu 10 148 24 120831 ?_
                               refine tk11 11 149 24 122879 hHeld ?_
                               refine tk11 13 151 24 131071 hHeld ?_
                               refine tk11 17 155 24 262143 hHeld ?_
                               refine pu 18 156 24 524287 ?_
                               refine pu 19 157 24 1048575 ?_
                               refine pu 20 158 24 2097151 ?_
                               refine tk11 21 159 24 4194303 hHeld ?_
                               refine one_ (i := 22) (N := some 160) (bl 24 8388607) rfl rfl (one_of HT_.out (by kernel_rfl)) (by decide) (fun K hK => ?_)
                               refine goes_ Tryz.func19 (by kernel_rfl) rfl #[.agg #[.slice A0_0 l0_0.length c0_0, .slice (some ad703) l0_1.length c0_1], .int .i64 (rd t683 x14_5), .int .i64 (rd l1 (rd t683 x14_5)), .int .i64 ((rd_T32 l0_1 (rd t683 x14_5)).f3.f1)] (by rfl) rfl rfl uM ?_
                               with_reducible refine (quinariaref02_Cups.calls _ _ l0_0 _ _ l0_1 (rd t683 x14_5) (rd l1 (rd t683 x14_5)) ((rd_T32 l0_1 (rd t683 x14_5)).f3.f1) t704 _ ?side1 ?side2 ?side3 ?side4 A99.out).mono ?_
                               (case side1 => repeat (first | exact (Kd.C_below HR0_0.out HB.out) | (with_reducible refine Kd.C_alloc ?_ _) | (with_reducible refine Kd.C_drewN ?_ _) | (with_reducible refine Kd.C_drew ?_)))
                               (case side2 => exact HC0_0.out)
                               (case side3 => repeat (first | exact (Kd.C_below HR0_1.out HB.out) | (with_reducible refine Kd.C_alloc ?_ _) | (with_reducible refine Kd.C_drewN ?_ _) | (with_reducible refine Kd.C_drew ?_)))
                               (case side4 => exact HC0_1.out)
                               rintro e w103 ⟨rfl, hb⟩
                               have HS2_ := (hb.cell (World.block_lt_of_cell? _ _ (hHeld.2.2.1))).trans (hHeld.2.2.1)
                               have HS3_ := (hb.cell (World.block_lt_of_cell? _ _ (hHeld.2.2.2.1))).trans (hHeld.2.2.2.1)
                               have HS5_ := (hb.cell (World.block_lt_of_cell? _ _ (hHeld.2.2.2.2.2.1))).trans (hHeld.2.2.2.2.2.1)
                               refine ⟨_, rfl, ?_⟩
                               replace HO_9 := Aside0.mk (Kd.R_below (uR HO_9.out) hb)
                               replace HO_13 := Aside0.mk (Kd.R_below (uR HO_13.out) hb)
                               replace BK673 := Aside0.mk (blk_below (uK BK673.out) hb)
                               replace BK682 := Aside0.mk (blk_below (uK BK682.out) hb)
                               replace HB := Aside0.mk (below_step uB hb)
                               (try clear hb)
                               (try clear hb2)
                               (try clear hk)
                               (try clear hi)
                               refine hK.out _ _ ⟨(blk_cell BK673.out 0).trans rfl, (blk_cell BK673.out 1).trans rfl, HS2_, HS3_, (hcell HB.out hw701_0), HS5_, (hcell HB.out hw703_0), (hcell HB.out hw703_1), (hcell HB.out hw703_2), (hcell HB.out hw703_3), (hcell HB.out hw703_4)⟩ (fun hHeld => ?_)
                               clear hK K
                               refine nm ?_
                               refine pu 23 15 24 16777215 ?_
                               refine done_ (done_of HT_.out (by kernel_rfl)) ?_
                               try go_wp2
                               go_loopg [16] kj75 (fun kq v16 w' => ∃ (x16_7 : Int), v16 = .int .i64 x16_7 ∧ Aside0 (quinarialaw02_ChannelNarrow.l2 kq l1 l2 t683 x11_3 y698 x14_5 t704 x16_7 l0_0 l0_1 = some r) ∧ Aside0 (kq ≤ kj75) ∧ Aside0 (Kd.R (Kd.int .i64) 3 w' w.heap.size (fun _ => True) (.slice (some ad697) t683.length co77) t683) ∧ Aside0 (Kd.R Kd.bool 4 w' w.heap.size (fun _ => True) (.slice (some ⟨go96, 0, none⟩) x13_5.length co96) y698) ∧ Aside0 (w'.heap[gb673]? = some (.cells #[(.slice A0_0 l0_0.length c0_0), (.slice (some ad703) l0_1.length c0_1)] 25 (0, 0))) ∧ Aside0 (w'.heap[gb682]? = some (.cells #[.int .i64 t679, .int .i64 t680] 30 (0, 0))) ∧ Aside0 (Below w.heap.size w w'))
                               case atStart => exact ⟨(0), u0, H', ⟨Nat.le_refl _⟩, ⟨uR HO_9.out⟩, ⟨uR HO_13.out⟩, ⟨uK BK673.out⟩, ⟨uK BK682.out⟩, ⟨uB⟩⟩
                               case round =>
                                as_aux_lemma =>
                                 clear H'
                                 try clear c1; try clear p2; try clear p6; try clear q6; try clear hx6; try clear c7; try clear p7; try clear q7; try clear hx7; try clear c8; try clear c9; try clear p9; try clear q9; try clear hx9; try clear hf9; try clear c15; try clear c19; try clear p69; try clear q69; try clear hx69; try clear p70; try clear q70; try clear hx70; try clear c78; try clear c80; try clear c81; try clear c81b0; try clear c83; try clear c84; try clear c91; try clear c92; try clear c92b0; try clear c93; try clear c93b0; try clear c94; try clear c94b0; try clear c95; try clear c95b0; try clear p96; try clear q96; try clear hx96; try clear hf96; try clear c97; try clear c97b0; try clear c98; try clear c98b0; try clear hx693_0; try clear hx697_0; try clear hx699_0; try clear hx700_0; try clear hx701_0; try clear hx702_0; try clear hx703_0; try clear hx703_1; try clear hx703_2; try clear hx703_3; try clear hx703_4; try clear hx96_0; try clear p2; try clear p6; try clear p69; try clear p693; try clear p697; try clear p699; try clear p700; try clear p701; try clear p702; try clear p703; try clear p96; try clear q6; try clear q69; try clear q693; try clear q697; try clear q699; try clear q700; try clear q701; try clear q702; try clear q703; try clear q96
                                 obtain ⟨x16_7, rfl, HA, HK7, HO_9, HO_13, BK673, BK682, HB⟩ := hrel
                                 have hl13_7 := (Kd.R_reads' HO_13.out).1
                                 rw [hl13_7] at HO_13
                                 (try simp only [hl13_7])
                                 (try simp only [hl13_7] at BK673)
                                 (try simp only [hl13_7] at BK682)
                                 (try simp only [hl13_7] at HO_9)
                                 cases gk with
                                 | zero => exact absurd HA.out (by simp [quinarialaw02_ChannelNarrow.l2])
                                 | succ k7 =>
                                  have H := HA.out
                                  clear HA
                                  simp only [quinarialaw02_ChannelNarrow.l2] at H
                                  by_cases c104 : x16_7 < (l0_1.length : Int)
                                  ·as_aux_lemma =>
                                    rw [if_pos c104] at H
                                    replace c104 := decide_eq_true c104
                                    obtain ⟨c105, H⟩ := ifs H
                                    replace c105 := decide_eq_true c105
                                    obtain ⟨c106, H⟩ := ifs H
                                    replace c106 := decide_eq_true c106
                                    by_cases c107 : x16_7 = (rd t683 x14_5)
                                    ·rw [if_pos c107] at H
                                     have c107b0 : (x16_7 == (rd t683 x14_5)) = true := beq_iff_eq.mpr c107
                                     have c107b1 : (x16_7 != (rd t683 x14_5)) = false := bne_eq_false_iff_eq.mpr c107
                                     clear c107
                                     have H' := Aside0.mk H
                                     clear H
                                     have hnb108 := NB673_682.out
                                     have hnc108 := NB682_673.out
                                     obtain ⟨hcz109_0, hcz109_1⟩ := cz2 BK673.out
                                     obtain ⟨hfz109_0, hfz109_1⟩ := fz2 BK673.out
                                     try go_wp2
                                     replace HO_9 := Aside0.mk (Kd.R_drew HO_9.out)
                                     replace HO_13 := Aside0.mk (Kd.R_drew HO_13.out)
                                     replace BK673 := Aside0.mk (blk_drew BK673.out)
                                     replace BK682 := Aside0.mk (blk_drew BK682.out)
                                     replace HB := Aside0.mk (below_drew1 HB.out)
                                     have p705 : 0 ≤ (x14_5 : Int) := of_decide_eq_true (by first | (with_reducible assumption) | assumption)
                                     have q705 : x14_5 < (t683.length : Int) := of_decide_eq_true (by first | (with_reducible assumption) | assumption)
                                     obtain ⟨ad705, e705, hx705_0⟩ := Kd.at_int (Kd.R_reads' HO_9.out).2.2 x14_5 p705 q705
                                     obtain rfl : ad697 = ad705 := (by injection e705)
                                     replace p705 := eq_true p705
                                     replace q705 := eq_true q705
                                     refine start_ (n := 24) (S := fun w' => w'.cell? (ad697.add (x14_5).toNat) = some (.int .i64 (rd t683 x14_5))) (ds := []) (bl 24 0) (by kernel_rfl) rfl rfl (hx705_0) (fun hHeld => ?_); refine with_tabW quinarialaw02_ChannelNarrow.tab25 quinarialaw02_ChannelNarrow.bits25 (fun HT_ HW_ => ?_)
                                     generalize wr.drew = w110 at HO_9 HO_13 BK673 BK682 HB hx705_0 hHeld ⊢
                                     refine pu 0 168 24 1 ?_
                                     refine pu 1 169 24 3 ?_
                                     refine pu 2 170 24 7 ?_
                                     refine pu 3 171 24 15 ?_
                                     refine tk1 4 172 24 31 hHeld ?_
                                     refine pu 5 173 24 63 ?_
                                     refine pu 6 174 24 127 ?_
                                     refine pure_ (i := 7) (N := some 175) (v := undef) (a' := ?_) (bl 24 255) rfl rfl (any_of HT_.out (by kernel_rfl)) (fun _ _ _ h => h) (Or.inr ⟨by rfl, rfl⟩) ?_ ?_
                                     rotate_left
                                     ·simp only [Act.put, List.setIfInBounds_toArray, List.set_cons_zero, List.set_cons_succ, i64_w, i32_w]
                                      rfl
                                     refine pure_ (i := 8) (N := some 176) (v := undef) (a' := ?_) (bl 24 511) rfl rfl (any_of HT_.out (by kernel_rfl)) (fun _ _ _ h => h) (Or.inr ⟨by rfl, rfl⟩) ?_ ?_
                                     rotate_left
                                     ·simp only [Act.put, List.setIfInBounds_toArray, List.set_cons_zero, List.set_cons_succ, i64_w, i32_w]
                                      rfl
                                     refine pure_ (i := 9) (N := some 177) (v := undef) (a' := ?_) (bl 24 1023) rfl rfl (any_of HT_.out (by kernel_rfl)) (fun _ _ _ h => h) (Or.inr ⟨by rfl, rfl⟩) ?_ ?_
                                     rotate_left
                                     ·simp only [Act.put, List.setIfInBounds_toArray, List.set_cons_zero, List.set_cons_succ, i64_w, i32_w]
                                      rfl
                                     refine pure_ (i := 10) (N := some 178) (v := undef) (a' := ?_) (bl 24 2047) rfl rfl (any_of HT_.out (by kernel_rfl)) (fun _ _ _ h => h) (Or.inr ⟨by rfl, rfl⟩) ?_ ?_
                                     rotate_left
                                     ·simp only [Act.put, List.setIfInBounds_toArray, List.set_cons_zero, List.set_cons_succ, i64_w, i32_w]
                                      rfl
                                     refine pure_ (i := 11) (N := some 179) (v := undef) (a' := ?_) (bl 24 4095) rfl rfl (any_of HT_.out (by kernel_rfl)) (fun _ _ _ h => h) (Or.inr ⟨by rfl, rfl⟩) ?_ ?_
                                     rotate_left
                                     ·simp only [Act.put, List.setIfInBounds_toArray, List.set_cons_zero, List.set_cons_succ, i64_w, i32_w]
                                      rfl
                                     refine pure_ (i := 12) (N := some 180) (v := undef) (a' := ?_) (bl 24 8191) rfl rfl (any_of HT_.out (by kernel_rfl)) (fun _ _ _ h => h) (Or.inr ⟨by rfl, rfl⟩) ?_ ?_
                                     rotate_left
                                     ·simp only [Act.put, List.setIfInBounds_toArray, List.set_cons_zero, List.set_cons_succ, i64_w, i32_w]
                                      rfl
                                     refine pure_ (i := 13) (N := some 181) (v := undef) (a' := ?_) (bl 24 16383) rfl rfl (any_of HT_.out (by kernel_rfl)) (fun _ _ _ h => h) (Or.inr ⟨by rfl, rfl⟩) ?_ ?_
                                     rotate_left
                                     ·simp only [Act.put, List.setIfInBounds_toArray, List.set_cons_zero, List.set_cons_succ, i64_w, i32_w]
                                      rfl
                                     refine pure_ (i := 14) (N := some 182) (v := undef) (a' := ?_) (bl 24 32767) rfl rfl (any_of HT_.out (by kernel_rfl)) (fun _ _ _ h => h) (Or.inr ⟨by rfl, rfl⟩) ?_ ?_
                                     rotate_left
                                     ·simp only [Act.put, List.setIfInBounds_toArray, List.set_cons_zero, List.set_cons_succ, i64_w, i32_w]
                                      rfl
                                     refine pure_ (i := 15) (N := some 183) (v := undef) (a' := ?_) (bl 24 65535) rfl rfl (any_of HT_.out (by kernel_rfl)) (fun _ _ _ h => h) (Or.inr ⟨by rfl, rfl⟩) ?_ ?_
                                     rotate_left
                                     ·simp only [Act.put, List.setIfInBounds_toArray, List.set_cons_zero, List.set_cons_succ, i64_w, i32_w]
                                      rfl
                                     refine pure_ (i := 16) (N := some 184) (v := undef) (a' := ?_) (bl 24 131071) rfl rfl (any_of HT_.out (by kernel_rfl)) (fun _ _ _ h => h) (Or.inr ⟨by rfl, rfl⟩) ?_ ?_
                                     rotate_left
                                     ·simp only [Act.put, List.setIfInBounds_toArray, List.set_cons_zero, List.set_cons_succ, i64_w, i32_w]
                                      rfl
                                     refine pure_ (i := 17) (N := some 185) (v := undef) (a' := ?_) (bl 24 262143) rfl rfl (any_of HT_.out (by kernel_rfl)) (fun _ _ _ h => h) (Or.inr ⟨by rfl, rfl⟩) ?_ ?_
                                     rotate_left
                                     ·simp only [Act.put, List.setIfInBounds_toArray, List.set_cons_zero, List.set_cons_succ, i64_w, i32_w]
                                      rfl
                                     refine pure_ (i := 18) (N := some 186) (v := undef) (a' := ?_) (bl 24 524287) rfl rfl (any_of HT_.out (by kernel_rfl)) (fun _ _ _ h => h) (Or.inr ⟨by rfl, rfl⟩) ?_ ?_
                                     rotate_left
                                     ·simp only [Act.put, List.setIfInBounds_toArray, List.set_cons_zero, List.set_cons_succ, i64_w, i32_w]
                                      rfl
                                     refine pure_ (i := 19) (N := some 187) (v := undef) (a' := ?_) (bl 24 1048575) rfl rfl (any_of HT_.out (by kernel_rfl)) (fun _ _ _ h => h) (Or.inr ⟨by rfl, rfl⟩) ?_ ?_
                                     rotate_left
                                     ·simp only [Act.put, List.setIfInBounds_toArray, List.set_cons_zero, List.set_cons_succ, i64_w, i32_w]
                                      rfl
                                     refine pure_ (i := 20) (N := some 188) (v := undef) (a' := ?_) (bl 24 2097151) rfl rfl (any_of HT_.out (by kernel_rfl)) (fun _ _ _ h => h) (Or.inr ⟨by rfl, rfl⟩) ?_ ?_
                                     rotate_left
                                     ·simp only [Act.put, List.setIfInBounds_toArray, List.set_cons_zero, List.set_cons_succ, i64_w, i32_w]
                                      rfl
                                     refine pure_ (i := 21) (N := some 189) (v := undef) (a' := ?_) (bl 24 4194303) rfl rfl (any_of HT_.out (by kernel_rfl)) (fun _ _ _ h => h) (Or.inr ⟨by rfl, rfl⟩) ?_ ?_
                                     rotate_left
                                     ·simp only [Act.put, List.setIfInBounds_toArray, List.set_cons_zero, List.set_cons_succ, i64_w, i32_w]
                                      rfl
                                     refine pure_ (i := 22) (N := some 190) (v := undef) (a' := ?_) (bl 24 8388607) rfl rfl (any_of HT_.out (by kernel_rfl)) (fun _ _ _ h => h) (Or.inr ⟨by rfl, rfl⟩) ?_ ?_
                                     rotate_left
                                     ·simp only [Act.put, List.setIfInBounds_toArray, List.set_cons_zero, List.set_cons_succ, i64_w, i32_w]
                                      rfl
                                     refine pu 23 191 24 16777215 ?_
                                     refine done_ (done_of HT_.out (by kernel_rfl)) ?_
                                     try go_wp2
                                     (try simp only [← hl13_7])
                                     go_roundg k7
                                     case measure => have := HJ3.out; have := HJ40.out; have := HK3.out; have := HJ61.out; have := HK5.out; have := HJ75.out; have := HK7.out; omega
                                     case rel => exact ⟨(wrap64 (x16_7 + 1)), u0, H', ⟨by have := HJ3.out; have := HJ40.out; have := HK3.out; have := HJ61.out; have := HK5.out; have := HJ75.out; have := HK7.out; omega⟩, ⟨by (try simp only [hl13_7]); refine uR ?_; exact HO_9.out⟩, ⟨by (try simp only [hl13_7]); refine uR ?_; exact HO_13.out⟩, ⟨by (try simp only [hl13_7]); refine uK ?_; exact BK673.out⟩, ⟨by (try simp only [hl13_7]); refine uK ?_; exact BK682.out⟩, ⟨uB⟩⟩
                                    ·as_aux_lemma =>
                                      rw [if_neg c107] at H
                                      have c107b0 : (x16_7 == (rd t683 x14_5)) = false := beq_eq_false_iff_ne.mpr c107
                                      have c107b1 : (x16_7 != (rd t683 x14_5)) = true := bne_iff_ne.mpr c107
                                      obtain ⟨c111, H⟩ := ifs H
                                      replace c111 := decide_eq_true c111
                                      obtain ⟨c112, H⟩ := ifs H
                                      replace c112 := decide_eq_true c112
                                      replace H := Option.bind_eq_some_iff.mp H
                                      obtain ⟨t708, A1130, H⟩ := H
                                      replace H : (if t708 < t704 then (some false) else (quinarialaw02_ChannelNarrow.l2 k7 l1 l2 t683 x11_3 y698 x14_5 t704 (wrap64 (x16_7 + 1)) l0_0 l0_1)) = some r := H
                                      have A113 := Aside0.mk A1130
                                      clear A1130
                                      by_cases c114 : t708 < t704
                                      ·rw [if_pos c114] at H
                                       replace c114 := decide_eq_true c114
                                       obtain rfl := Option.some.inj H
                                       have hnb115 := NB673_682.out
                                       have hnc115 := NB682_673.out
                                       obtain ⟨hcz116_0, hcz116_1⟩ := cz2 BK673.out
                                       obtain ⟨hfz116_0, hfz116_1⟩ := fz2 BK673.out
                                       try go_wp2
                                       replace HO_9 := Aside0.mk (Kd.R_drew HO_9.out)
                                       replace HO_13 := Aside0.mk (Kd.R_drew HO_13.out)
                                       replace BK673 := Aside0.mk (blk_drew BK673.out)
                                       replace BK682 := Aside0.mk (blk_drew BK682.out)
                                       replace HB := Aside0.mk (below_drew1 HB.out)
                                       have p705 : 0 ≤ (x14_5 : Int) := of_decide_eq_true (by first | (with_reducible assumption) | assumption)
                                       have q705 : x14_5 < (t683.length : Int) := of_decide_eq_true (by first | (with_reducible assumption) | assumption)
                                       obtain ⟨ad705, e705, hx705_0⟩ := Kd.at_int (Kd.R_reads' HO_9.out).2.2 x14_5 p705 q705
                                       obtain rfl : ad697 = ad705 := (by injection e705)
                                       replace p705 := eq_true p705
                                       replace q705 := eq_true q705
                                       have p706 : 0 ≤ (x16_7 : Int) := of_decide_eq_true (by first | (with_reducible assumption) | assumption)
                                       have q706 : x16_7 < (l1.length : Int) := of_decide_eq_true (by first | (with_reducible assumption) | assumption)
                                       obtain ⟨ad706, e706, hx706_0⟩ := Kd.at_int HR1.out x16_7 p706 q706
                                       have hw706_0 := hx706_0
                                       obtain rfl : ad701 = ad706 := (by injection e706)
                                       replace hx706_0 := hcell HB.out hx706_0
                                       replace p706 := eq_true p706
                                       replace q706 := eq_true q706
                                       have p707 : 0 ≤ (x16_7 : Int) := of_decide_eq_true (by first | (with_reducible assumption) | assumption)
                                       have q707 : x16_7 < (l0_1.length : Int) := of_decide_eq_true (by first | (with_reducible assumption) | assumption)
                                       obtain ⟨ad707, e707, hx707_0, hx707_1, hx707_2, hx707_3, hx707_4⟩ := at_T32 HR0_1.out x16_7 p707 q707
                                       have hw707_4 := hx707_4
                                       have hw707_3 := hx707_3
                                       have hw707_2 := hx707_2
                                       have hw707_1 := hx707_1
                                       have hw707_0 := hx707_0
                                       obtain rfl : ad703 = ad707 := (by injection e707)
                                       replace hx707_0 := hcell HB.out hx707_0
                                       replace hx707_1 := hcell HB.out hx707_1
                                       replace hx707_2 := hcell HB.out hx707_2
                                       replace hx707_3 := hcell HB.out hx707_3
                                       replace hx707_4 := hcell HB.out hx707_4
                                       replace p707 := eq_true p707
                                       replace q707 := eq_true q707
                                       refine start_ (n := 24) (S := fun w' => w'.cell? ⟨gb673, 0, none⟩ = some (.slice A0_0 l0_0.length c0_0) ∧ w'.cell? ⟨gb673, 1, none⟩ = some (.slice (some ad703) l0_1.length c0_1) ∧ w'.cell? (ad697.add (x14_5).toNat) = some (.int .i64 (rd t683 x14_5)) ∧ w'.cell? (ad701.add (x16_7).toNat) = some (.int .i64 (rd l1 x16_7)) ∧ w'.cell? (ad703.add ((x16_7).toNat * 5)) = some (.int .i64 ((rd_T32 l0_1 x16_7).f0)) ∧ w'.cell? ⟨(ad703.add ((x16_7).toNat * 5)).block, (ad703.add ((x16_7).toNat * 5)).off + 1, none⟩ = some (.int .i64 ((rd_T32 l0_1 x16_7).f1)) ∧ w'.cell? ⟨(ad703.add ((x16_7).toNat * 5)).block, (ad703.add ((x16_7).toNat * 5)).off + 2, none⟩ = some (.int .i64 ((rd_T32 l0_1 x16_7).f2)) ∧ w'.cell? ⟨(ad703.add ((x16_7).toNat * 5)).block, (ad703.add ((x16_7).toNat * 5)).off + 3, none⟩ = some (.int .i64 ((rd_T32 l0_1 x16_7).f3.f0)) ∧ w'.cell? ⟨(ad703.add ((x16_7).toNat * 5)).block, (ad703.add ((x16_7).toNat * 5)).off + 4, none⟩ = some (.int .i64 ((rd_T32 l0_1 x16_7).f3.f1))) (ds := []) (bl 24 0) (by kernel_rfl) rfl rfl ⟨(blk_cell BK673.out 0).trans rfl, (blk_cell BK673.out 1).trans rfl, hx705_0, (hcell HB.out hw706_0), (hcell HB.out hw707_0), (hcell HB.out hw707_1), (hcell HB.out hw707_2), (hcell HB.out hw707_3), (hcell HB.out hw707_4)⟩ (fun hHeld => ?_); refine with_tabW quinarialaw02_ChannelNarrow.tab25 quinarialaw02_ChannelNarrow.bits25 (fun HT_ HW_ => ?_)
                                       generalize wr.drew = w117 at HO_9 HO_13 BK673 BK682 HB hx705_0 hx706_0 hx707_0 hx707_1 hx707_2 hx707_3 hx707_4 hHeld ⊢
                                       refine pu 0 168 24 1 ?_
                                       refine pu 1 169 24 3 ?_
                                       refine pu 2 170 24 7 ?_
                                       refine pu 3 171 24 15 ?_
                                       refine tk9 4 172 24 31 hHeld ?_
                                       refine pu 5 173 24 63 ?_
                                       refine pu 6 174 24 127 ?_
                                       refine pu 8 176 24 383 ?_
                                       refine pu 9 177 24 895 ?_
                                       refine pu 10 178 24 1919 ?_
                                       refine pu 11 179 24 3967 ?_
                                       refine pu 13 181 24 12159 ?_
                                       refine pu 15 183 24 44927 ?_
                                       refine pu 21 189 24 2142079 ?_
                                       refine tk9 7 175 24 2142207 hHeld ?_
                                       refine tk9 12 180 24 2146303 hHeld ?_
                                       refine tk9 14 182 24 2162687 hHeld ?_
                                       refine pu 16 184 24 2228223 ?_
                                       refine pu 17 185 24 2359295 ?_
                                       refine pu 18 186 24 2621439 ?_
                                       refine tk9 19 187 24 3145727 hHeld ?_
                                       refine one_ (i := 20) (N := some 188) (bl 24 4194303) rfl rfl (one_of HT_.out (by kernel_rfl)) (by decide) (fun K hK => ?_)
                                       refine goes_ Tryz.func19 (by kernel_rfl) rfl #[.agg #[.slice A0_0 l0_0.length c0_0, .slice (some ad703) l0_1.length c0_1], .int .i64 x16_7, .int .i64 (rd l1 x16_7), .int .i64 ((rd_T32 l0_1 x16_7).f3.f0)] (by rfl) rfl rfl uM ?_
                                       with_reducible refine (quinariaref02_Cups.calls _ _ l0_0 _ _ l0_1 x16_7 (rd l1 x16_7) ((rd_T32 l0_1 x16_7).f3.f0) t708 _ ?side1 ?side2 ?side3 ?side4 A113.out).mono ?_
                                       (case side1 => repeat (first | exact (Kd.C_below HR0_0.out HB.out) | (with_reducible refine Kd.C_alloc ?_ _) | (with_reducible refine Kd.C_drewN ?_ _) | (with_reducible refine Kd.C_drew ?_)))
                                       (case side2 => exact HC0_0.out)
                                       (case side3 => repeat (first | exact (Kd.C_below HR0_1.out HB.out) | (with_reducible refine Kd.C_alloc ?_ _) | (with_reducible refine Kd.C_drewN ?_ _) | (with_reducible refine Kd.C_drew ?_)))
                                       (case side4 => exact HC0_1.out)
                                       rintro e w118 ⟨rfl, hb⟩
                                       have HS2_ := (hb.cell (World.block_lt_of_cell? _ _ (hHeld.2.2.1))).trans (hHeld.2.2.1)
                                       refine ⟨_, rfl, ?_⟩
                                       replace HO_9 := Aside0.mk (Kd.R_below (uR HO_9.out) hb)
                                       replace HO_13 := Aside0.mk (Kd.R_below (uR HO_13.out) hb)
                                       replace BK673 := Aside0.mk (blk_below (uK BK673.out) hb)
                                       replace BK682 := Aside0.mk (blk_below (uK BK682.out) hb)
                                       replace HB := Aside0.mk (below_step uB hb)
                                       (try clear hb)
                                       (try clear hb2)
                                       (try clear hk)
                                       (try clear hi)
                                       refine hK.out _ _ ⟨(blk_cell BK673.out 0).trans rfl, (blk_cell BK673.out 1).trans rfl, HS2_, (hcell HB.out hw706_0), (hcell HB.out hw707_0), (hcell HB.out hw707_1), (hcell HB.out hw707_2), (hcell HB.out hw707_3), (hcell HB.out hw707_4)⟩ (fun hHeld => ?_)
                                       clear hK K
                                       refine nm ?_
                                       refine pu 22 190 24 8388607 ?_
                                       refine pu 23 191 24 16777215 ?_
                                       refine done_ (done_of HT_.out (by kernel_rfl)) ?_
                                       try go_wp2
                                       go_ret
                                       exact ⟨uE, uB⟩
                                      ·rw [if_neg c114] at H
                                       replace c114 := decide_eq_false c114
                                       have H' := Aside0.mk H
                                       clear H
                                       have hnb119 := NB673_682.out
                                       have hnc119 := NB682_673.out
                                       obtain ⟨hcz120_0, hcz120_1⟩ := cz2 BK673.out
                                       obtain ⟨hfz120_0, hfz120_1⟩ := fz2 BK673.out
                                       try go_wp2
                                       replace HO_9 := Aside0.mk (Kd.R_drew HO_9.out)
                                       replace HO_13 := Aside0.mk (Kd.R_drew HO_13.out)
                                       replace BK673 := Aside0.mk (blk_drew BK673.out)
                                       replace BK682 := Aside0.mk (blk_drew BK682.out)
                                       replace HB := Aside0.mk (below_drew1 HB.out)
                                       have p705 : 0 ≤ (x14_5 : Int) := of_decide_eq_true (by first | (with_reducible assumption) | assumption)
                                       have q705 : x14_5 < (t683.length : Int) := of_decide_eq_true (by first | (with_reducible assumption) | assumption)
                                       obtain ⟨ad705, e705, hx705_0⟩ := Kd.at_int (Kd.R_reads' HO_9.out).2.2 x14_5 p705 q705
                                       obtain rfl : ad697 = ad705 := (by injection e705)
                                       replace p705 := eq_true p705
                                       replace q705 := eq_true q705
                                       have p706 : 0 ≤ (x16_7 : Int) := of_decide_eq_true (by first | (with_reducible assumption) | assumption)
                                       have q706 : x16_7 < (l1.length : Int) := of_decide_eq_true (by first | (with_reducible assumption) | assumption)
                                       obtain ⟨ad706, e706, hx706_0⟩ := Kd.at_int HR1.out x16_7 p706 q706
                                       have hw706_0 := hx706_0
                                       obtain rfl : ad701 = ad706 := (by injection e706)
                                       replace hx706_0 := hcell HB.out hx706_0
                                       replace p706 := eq_true p706
                                       replace q706 := eq_true q706
                                       have p707 : 0 ≤ (x16_7 : Int) := of_decide_eq_true (by first | (with_reducible assumption) | assumption)
                                       have q707 : x16_7 < (l0_1.length : Int) := of_decide_eq_true (by first | (with_reducible assumption) | assumption)
                                       obtain ⟨ad707, e707, hx707_0, hx707_1, hx707_2, hx707_3, hx707_4⟩ := at_T32 HR0_1.out x16_7 p707 q707
                                       have hw707_4 := hx707_4
                                       have hw707_3 := hx707_3
                                       have hw707_2 := hx707_2
                                       have hw707_1 := hx707_1
                                       have hw707_0 := hx707_0
                                       obtain rfl : ad703 = ad707 := (by injection e707)
                                       replace hx707_0 := hcell HB.out hx707_0
                                       replace hx707_1 := hcell HB.out hx707_1
                                       replace hx707_2 := hcell HB.out hx707_2
                                       replace hx707_3 := hcell HB.out hx707_3
                                       replace hx707_4 := hcell HB.out hx707_4
                                       replace p707 := eq_true p707
                                       replace q707 := eq_true q707
                                       refine start_ (n := 24) (S := fun w' => w'.cell? ⟨gb673, 0, none⟩ = some (.slice A0_0 l0_0.length c0_0) ∧ w'.cell? ⟨gb673, 1, none⟩ = some (.slice (some ad703) l0_1.length c0_1) ∧ w'.cell? (ad697.add (x14_5).toNat) = some (.int .i64 (rd t683 x14_5)) ∧ w'.cell? (ad701.add (x16_7).toNat) = some (.int .i64 (rd l1 x16_7)) ∧ w'.cell? (ad703.add ((x16_7).toNat * 5)) = some (.int .i64 ((rd_T32 l0_1 x16_7).f0)) ∧ w'.cell? ⟨(ad703.add ((x16_7).toNat * 5)).block, (ad703.add ((x16_7).toNat * 5)).off + 1, none⟩ = some (.int .i64 ((rd_T32 l0_1 x16_7).f1)) ∧ w'.cell? ⟨(ad703.add ((x16_7).toNat * 5)).block, (ad703.add ((x16_7).toNat * 5)).off + 2, none⟩ = some (.int .i64 ((rd_T32 l0_1 x16_7).f2)) ∧ w'.cell? ⟨(ad703.add ((x16_7).toNat * 5)).block, (ad703.add ((x16_7).toNat * 5)).off + 3, none⟩ = some (.int .i64 ((rd_T32 l0_1 x16_7).f3.f0)) ∧ w'.cell? ⟨(ad703.add ((x16_7).toNat * 5)).block, (ad703.add ((x16_7).toNat * 5)).off + 4, none⟩ = some (.int .i64 ((rd_T32 l0_1 x16_7).f3.f1))) (ds := []) (bl 24 0) (by kernel_rfl) rfl rfl ⟨(blk_cell BK673.out 0).trans rfl, (blk_cell BK673.out 1).trans rfl, hx705_0, (hcell HB.out hw706_0), (hcell HB.out hw707_0), (hcell HB.out hw707_1), (hcell HB.out hw707_2), (hcell HB.out hw707_3), (hcell HB.out hw707_4)⟩ (fun hHeld => ?_); refine with_tabW quinarialaw02_ChannelNarrow.tab25 quinarialaw02_ChannelNarrow.bits25 (fun HT_ HW_ => ?_)
                                       generalize wr.drew = w121 at HO_9 HO_13 BK673 BK682 HB hx705_0 hx706_0 hx707_0 hx707_1 hx707_2 hx707_3 hx707_4 hHeld ⊢
                                       refine pu 0 168 24 1 ?_
                                       refine pu 1 169 24 3 ?_
                                       refine pu 2 170 24 7 ?_
                                       refine pu 3 171 24 15 ?_
                                       refine tk9 4 172 24 31 hHeld ?_
                                       refine pu 5 173 24 63 ?_
                                       refine pu 6 174 24 127 ?_
                                       refine pu 8 176 24 383 ?_
                                       refine pu 9 177 24 895 ?_
                                       refine pu 10 178 24 1919 ?_
                                       refine pu 11 179 24 3967 ?_
                                       refine pu 13 181 24 12159 ?_
                                       refine pu 15 183 24 44927 ?_
                                       refine pu 21 189 24 2142079 ?_
                                       refine tk9 7 175 24 2142207 hHeld ?_
                                       refine tk9 12 180 24 2146303 hHeld ?_
                                       refine tk9 14 182 24 2162687 hHeld ?_
                                       refine pu 16 184 24 2228223 ?_
                                       refine pu 17 185 24 2359295 ?_
                                       refine pu 18 186 24 2621439 ?_
                                       refine tk9 19 187 24 3145727 hHeld ?_
                                       refine one_ (i := 20) (N := some 188) (bl 24 4194303) rfl rfl (one_of HT_.out (by kernel_rfl)) (by decide) (fun K hK => ?_)
                                       refine goes_ Tryz.func19 (by kernel_rfl) rfl #[.agg #[.slice A0_0 l0_0.length c0_0, .slice (some ad703) l0_1.length c0_1], .int .i64 x16_7, .int .i64 (rd l1 x16_7), .int .i64 ((rd_T32 l0_1 x16_7).f3.f0)] (by rfl) rfl rfl uM ?_
                                       with_reducible refine (quinariaref02_Cups.calls _ _ l0_0 _ _ l0_1 x16_7 (rd l1 x16_7) ((rd_T32 l0_1 x16_7).f3.f0) t708 _ ?side1 ?side2 ?side3 ?side4 A113.out).mono ?_
                                       (case side1 => repeat (first | exact (Kd.C_below HR0_0.out HB.out) | (with_reducible refine Kd.C_alloc ?_ _) | (with_reducible refine Kd.C_drewN ?_ _) | (with_reducible refine Kd.C_drew ?_)))
                                       (case side2 => exact HC0_0.out)
                                       (case side3 => repeat (first | exact (Kd.C_below HR0_1.out HB.out) | (with_reducible refine Kd.C_alloc ?_ _) | (with_reducible refine Kd.C_drewN ?_ _) | (with_reducible refine Kd.C_drew ?_)))
                                       (case side4 => exact HC0_1.out)
                                       rintro e w122 ⟨rfl, hb⟩
                                       have HS2_ := (hb.cell (World.block_lt_of_cell? _ _ (hHeld.2.2.1))).trans (hHeld.2.2.1)
                                       refine ⟨_, rfl, ?_⟩
                                       replace HO_9 := Aside0.mk (Kd.R_below (uR HO_9.out) hb)
                                       replace HO_13 := Aside0.mk (Kd.R_below (uR HO_13.out) hb)
                                       replace BK673 := Aside0.mk (blk_below (uK BK673.out) hb)
                                       replace BK682 := Aside0.mk (blk_below (uK BK682.out) hb)
                                       replace HB := Aside0.mk (below_step uB hb)
                                       (try clear hb)
                                       (try clear hb2)
                                       (try clear hk)
                                       (try clear hi)
                                       refine hK.out _ _ ⟨(blk_cell BK673.out 0).trans rfl, (blk_cell BK673.out 1).trans rfl, HS2_, (hcell HB.out hw706_0), (hcell HB.out hw707_0), (hcell HB.out hw707_1), (hcell HB.out hw707_2), (hcell HB.out hw707_3), (hcell HB.out hw707_4)⟩ (fun hHeld => ?_)
                                       clear hK K
                                       refine nm ?_
                                       refine pu 22 190 24 8388607 ?_
                                       refine pu 23 191 24 16777215 ?_
                                       refine done_ (done_of HT_.out (by kernel_rfl)) ?_
                                       try go_wp2
                                       (try simp only [← hl13_7])
                                       go_roundg k7
                                       case measure => have := HJ3.out; have := HJ40.out; have := HK3.out; have := HJ61.out; have := HK5.out; have := HJ75.out; have := HK7.out; omega
                                       case rel => exact ⟨(wrap64 (x16_7 + 1)), u0, H', ⟨by have := HJ3.out; have := HJ40.out; have := HK3.out; have := HJ61.out; have := HK5.out; have := HJ75.out; have := HK7.out; omega⟩, ⟨by (try simp only [hl13_7]); refine uR ?_; exact HO_9.out⟩, ⟨by (try simp only [hl13_7]); refine uR ?_; exact HO_13.out⟩, ⟨by (try simp only [hl13_7]); refine uK ?_; exact BK673.out⟩, ⟨by (try simp only [hl13_7]); refine uK ?_; exact BK682.out⟩, ⟨uB⟩⟩
                                  ·rw [if_neg c104] at H
                                   replace c104 := decide_eq_false c104
                                   have H' := Aside0.mk H
                                   clear H
                                   have hnb123 := NB673_682.out
                                   have hnc123 := NB682_673.out
                                   obtain ⟨hcz124_0, hcz124_1⟩ := cz2 BK673.out
                                   obtain ⟨hfz124_0, hfz124_1⟩ := fz2 BK673.out
                                   go_wp2
                                   (try simp only [← hl13_7])
                                   go_roundg k7
                                   case measure => have := HJ3.out; have := HJ40.out; have := HK3.out; have := HJ61.out; have := HK5.out; have := HJ75.out; have := HK7.out; omega
                                   case rel => exact ⟨(y698), (wrap64 (x14_5 + 1)), u0, H', ⟨by have := HJ3.out; have := HJ40.out; have := HK3.out; have := HJ61.out; have := HK5.out; have := HJ75.out; have := HK7.out; omega⟩, ⟨by (try simp only [hl13_7]); refine uR ?_; exact HO_9.out⟩, ⟨by (try simp only [hl13_7]); refine uR ?_; exact HO_13.out⟩, ⟨by (try simp only [hl13_7]); refine uK ?_; exact BK673.out⟩, ⟨by (try simp only [hl13_7]); refine uK ?_; exact BK682.out⟩, ⟨uB⟩⟩
                        ·as_aux_lemma =>
                          rw [if_neg c75] at H
                          replace c75 := decide_eq_false c75
                          have H' := Aside0.mk H
                          clear H
                          obtain ⟨Ao125, co125, eo125⟩ := Kd.R_slice HO_9.out
                          subst eo125
                          go_wp2
                          go_loopg [17] k5 (fun kq v17 w' => ∃ (x17_6 : Int), v17 = .int .i64 x17_6 ∧ Aside0 (quinarialaw02_ChannelNarrow.l3 kq l1 l2 x11_3 x13_5 x17_6 l0_0 l0_1 = some r) ∧ Aside0 (kq ≤ k5) ∧ Aside0 (Kd.R Kd.bool 4 w' w.heap.size (fun _ => True) v691 x13_5) ∧ Aside0 (w'.heap[gb673]? = some (.cells #[(.slice A0_0 l0_0.length c0_0), (.slice A0_1 l0_1.length c0_1)] 25 (0, 0))) ∧ Aside0 (w'.heap[gb682]? = some (.cells #[.int .i64 t679, .int .i64 t680] 30 (0, 0))) ∧ Aside0 (Below w.heap.size w w'))
                          case atStart => exact ⟨(0), u0, H', ⟨Nat.le_refl _⟩, ⟨uR HO_13.out⟩, ⟨uK BK673.out⟩, ⟨uK BK682.out⟩, ⟨uB⟩⟩
                          case round =>
                           as_aux_lemma =>
                            clear H'
                            try clear c1; try clear p2; try clear p6; try clear c7; try clear p7; try clear q7; try clear hx7; try clear c9; try clear c10; try clear c11; try clear c12; try clear c19; try clear p64; try clear p70; try clear q70; try clear hx70; try clear c75; try clear c75b0; try clear c92; try clear c93; try clear c94; try clear c95; try clear c97; try clear c98; try clear c104; try clear c104b0; try clear c105; try clear c106; try clear c111; try clear c112; try clear c114; try clear c114b0; try clear c119; try clear c123; try clear hcz120_0; try clear hcz120_1; try clear hcz124_0; try clear hcz124_1; try clear hfz120_0; try clear hfz120_1; try clear hfz124_0; try clear hfz124_1; try clear hx705_0; try clear hx706_0; try clear hx707_0; try clear hx707_1; try clear hx707_2; try clear hx707_3; try clear hx707_4; try clear p705; try clear p706; try clear p707; try clear q705; try clear q706; try clear q707
                            obtain ⟨x17_6, rfl, HA, HK6, HO_13, BK673, BK682, HB⟩ := hrel
                            cases gk with
                            | zero => exact absurd HA.out (by simp [quinarialaw02_ChannelNarrow.l3])
                            | succ k6 =>
                             have H := HA.out
                             clear HA
                             simp only [quinarialaw02_ChannelNarrow.l3] at H
                             by_cases c126 : x17_6 < (l2.length : Int)
                             ·as_aux_lemma =>
                               rw [if_pos c126] at H
                               replace c126 := decide_eq_true c126
                               obtain ⟨c127, H⟩ := ifs H
                               replace c127 := decide_eq_true c127
                               obtain ⟨c128, H⟩ := ifs H
                               replace c128 := decide_eq_true c128
                               replace H := Option.bind_eq_some_iff.mp H
                               obtain ⟨t711, A1290, H⟩ := H
                               replace H : (if t711 = x11_3 then (if x17_6 < (x13_5.length : Int) then (if rdOf false x13_5 x17_6 = true then (quinarialaw02_ChannelNarrow.l3 k6 l1 l2 x11_3 x13_5 (wrap64 (x17_6 + 1)) l0_0 l0_1) else (some false)) else (none)) else (quinarialaw02_ChannelNarrow.l3 k6 l1 l2 x11_3 x13_5 (wrap64 (x17_6 + 1)) l0_0 l0_1)) = some r := H
                               have A129 := Aside0.mk A1290
                               clear A1290
                               by_cases c130 : t711 = x11_3
                               ·as_aux_lemma =>
                                 rw [if_pos c130] at H
                                 have c130b0 : (t711 == x11_3) = true := beq_iff_eq.mpr c130
                                 have c130b1 : (t711 != x11_3) = false := bne_eq_false_iff_eq.mpr c130
                                 clear c130
                                 obtain ⟨c131, H⟩ := ifs H
                                 replace c131 := decide_eq_true c131
                                 obtain ⟨bq132, hbq132⟩ : ∃ b_ : Bool, b_ = (rdOf false x13_5 x17_6) := ⟨_, rfl⟩
                                 replace H : (if bq132 = true then (quinarialaw02_ChannelNarrow.l3 k6 l1 l2 x11_3 x13_5 (wrap64 (x17_6 + 1)) l0_0 l0_1) else (some false)) = some r := by rw [← hbq132] at H; exact H
                                 have Nbq132 := Aside0.mk hbq132
                                 clear hbq132
                                 by_cases c133 : bq132 = true
                                 ·subst c133
                                  have H1 : (quinarialaw02_ChannelNarrow.l3 k6 l1 l2 x11_3 x13_5 (wrap64 (x17_6 + 1)) l0_0 l0_1) = some r := by rw [if_pos rfl] at H; exact H
                                  clear H
                                  have H := H1
                                  clear H1
                                  have H' := Aside0.mk H
                                  clear H
                                  try go_wp2
                                  replace HO_13 := Aside0.mk (Kd.R_drew HO_13.out)
                                  replace BK673 := Aside0.mk (blk_drew BK673.out)
                                  replace BK682 := Aside0.mk (blk_drew BK682.out)
                                  replace HB := Aside0.mk (below_drew1 HB.out)
                                  have p709 : 0 ≤ (x17_6 : Int) := of_decide_eq_true (by first | (with_reducible assumption) | assumption)
                                  have q709 : x17_6 < (l1.length : Int) := of_decide_eq_true (by first | (with_reducible assumption) | assumption)
                                  obtain ⟨ad709, e709, hx709_0⟩ := Kd.at_int HR1.out x17_6 p709 q709
                                  have hw709_0 := hx709_0
                                  cases e709
                                  replace hx709_0 := hcell HB.out hx709_0
                                  replace p709 := eq_true p709
                                  replace q709 := eq_true q709
                                  have p710 : 0 ≤ (x17_6 : Int) := of_decide_eq_true (by first | (with_reducible assumption) | assumption)
                                  have q710 : x17_6 < (l2.length : Int) := of_decide_eq_true (by first | (with_reducible assumption) | assumption)
                                  obtain ⟨ad710, e710, hx710_0⟩ := Kd.at_int HR2.out x17_6 p710 q710
                                  have hw710_0 := hx710_0
                                  cases e710
                                  replace hx710_0 := hcell HB.out hx710_0
                                  replace p710 := eq_true p710
                                  replace q710 := eq_true q710
                                  have p712 : 0 ≤ (x17_6 : Int) := of_decide_eq_true (by first | (with_reducible assumption) | assumption)
                                  have q712 : x17_6 < (x13_5.length : Int) := of_decide_eq_true (by first | (with_reducible assumption) | assumption)
                                  try (obtain ⟨Aq_, cq_, eq_⟩ := Kd.R_slice HO_13.out; subst eq_)
                                  obtain ⟨ad712, e712, hx712_0⟩ := Kd.at_bool (Kd.R_reads' HO_13.out).2.2 x17_6 p712 q712
                                  (try rw [← Nbq132.out] at hx712_0)
                                  cases e712
                                  replace p712 := eq_true p712
                                  replace q712 := eq_true q712
                                  refine start_ (n := 20) (S := fun w' => w'.cell? ⟨gb673, 0, none⟩ = some (.slice A0_0 l0_0.length c0_0) ∧ w'.cell? ⟨gb673, 1, none⟩ = some (.slice A0_1 l0_1.length c0_1) ∧ w'.cell? (ad709.add (x17_6).toNat) = some (.int .i64 (rd l1 x17_6)) ∧ w'.cell? (ad710.add (x17_6).toNat) = some (.int .i64 (rd l2 x17_6)) ∧ w'.cell? (ad712.add (x17_6).toNat) = some (.bool true)) (ds := []) (bl 20 0) (by kernel_rfl) rfl rfl ⟨(blk_cell BK673.out 0).trans rfl, (blk_cell BK673.out 1).trans rfl, (hcell HB.out hw709_0), (hcell HB.out hw710_0), hx712_0⟩ (fun hHeld => ?_); refine with_tabW quinarialaw02_ChannelNarrow.tab30 quinarialaw02_ChannelNarrow.bits30 (fun HT_ HW_ => ?_)
                                  generalize wr.drew = w134 at HO_13 BK673 BK682 HB hx709_0 hx710_0 hx712_0 hHeld ⊢
                                  refine pu 1 199 20 2 ?_
                                  refine pu 2 200 20 6 ?_
                                  refine pu 3 201 20 14 ?_
                                  refine pu 4 202 20 30 ?_
                                  refine pu 6 204 20 94 ?_
                                  refine pu 7 205 20 222 ?_
                                  refine pu 8 206 20 478 ?_
                                  refine pu 11 209 20 2526 ?_
                                  refine tk5 0 198 20 2527 hHeld ?_
                                  refine tk5 5 203 20 2559 hHeld ?_
                                  refine tk5 9 207 20 3071 hHeld ?_
                                  refine one_ (i := 10) (N := some 208) (bl 20 4095) rfl rfl (one_of HT_.out (by kernel_rfl)) (by decide) (fun K hK => ?_)
                                  refine goes_ Tryz.func19 (by kernel_rfl) rfl #[.agg #[.slice A0_0 l0_0.length c0_0, .slice A0_1 l0_1.length c0_1], .int .i64 x17_6, .int .i64 (rd l1 x17_6), .int .i64 (rd l2 x17_6)] (by rfl) rfl rfl uM ?_
                                  with_reducible refine (quinariaref02_Cups.calls _ _ l0_0 _ _ l0_1 x17_6 (rd l1 x17_6) (rd l2 x17_6) t711 _ ?side1 ?side2 ?side3 ?side4 A129.out).mono ?_
                                  (case side1 => repeat (first | exact (Kd.C_below HR0_0.out HB.out) | (with_reducible refine Kd.C_alloc ?_ _) | (with_reducible refine Kd.C_drewN ?_ _) | (with_reducible refine Kd.C_drew ?_)))
                                  (case side2 => exact HC0_0.out)
                                  (case side3 => repeat (first | exact (Kd.C_below HR0_1.out HB.out) | (with_reducible refine Kd.C_alloc ?_ _) | (with_reducible refine Kd.C_drewN ?_ _) | (with_reducible refine Kd.C_drew ?_)))
                                  (case side4 => exact HC0_1.out)
                                  rintro e w135 ⟨rfl, hb⟩
                                  have HS4_ := (hb.cell (World.block_lt_of_cell? _ _ (hHeld.2.2.2.2))).trans (hHeld.2.2.2.2)
                                  refine ⟨_, rfl, ?_⟩
                                  replace HO_13 := Aside0.mk (Kd.R_below (uR HO_13.out) hb)
                                  replace BK673 := Aside0.mk (blk_below (uK BK673.out) hb)
                                  replace BK682 := Aside0.mk (blk_below (uK BK682.out) hb)
                                  replace HB := Aside0.mk (below_step uB hb)
                                  (try clear hb)
                                  (try clear hb2)
                                  (try clear hk)
                                  (try clear hi)
                                  obtain ⟨Ao136, co136, eo136⟩ := Kd.R_slice HO_13.out
                                  (first | subst eo136 | (injection eo136 with f1_ f2_ f3_; have f4_ := f1_.symm; have f5_ := f3_.symm; clear f1_ f2_ f3_; subst f4_; subst f5_))
                                  refine hK.out _ _ ⟨(blk_cell BK673.out 0).trans rfl, (blk_cell BK673.out 1).trans rfl, (hcell HB.out hw709_0), (hcell HB.out hw710_0), HS4_⟩ (fun hHeld => ?_)
                                  clear hK K
                                  refine nm ?_
                                  refine pu 12 210 20 8191 ?_
                                  refine pu 13 211 20 16383 ?_
                                  refine pu 14 212 20 32767 ?_
                                  refine pu 15 213 20 65535 ?_
                                  refine pu 16 214 20 131071 ?_
                                  refine tk5 17 215 20 262143 hHeld ?_
                                  refine pu 18 216 20 524287 ?_
                                  refine pu 19 217 20 1048575 ?_
                                  refine done_ (done_of HT_.out (by kernel_rfl)) ?_
                                  try go_wp2
                                  go_roundg k6
                                  case measure => have := HJ3.out; have := HJ40.out; have := HK3.out; have := HJ61.out; have := HK5.out; have := HK6.out; omega
                                  case rel => exact ⟨(wrap64 (x17_6 + 1)), u0, H', ⟨by have := HJ3.out; have := HJ40.out; have := HK3.out; have := HJ61.out; have := HK5.out; have := HK6.out; omega⟩, ⟨uR HO_13.out⟩, ⟨uK BK673.out⟩, ⟨uK BK682.out⟩, ⟨uB⟩⟩
                                 ·replace c133 := Bool.eq_false_iff.mpr c133
                                  subst c133
                                  have H1 : (some false) = some r := by rw [if_neg (show ¬ (false = true) by decide)] at H; exact H
                                  clear H
                                  have H := H1
                                  clear H1
                                  obtain rfl := Option.some.inj H
                                  try go_wp2
                                  replace HO_13 := Aside0.mk (Kd.R_drew HO_13.out)
                                  replace BK673 := Aside0.mk (blk_drew BK673.out)
                                  replace BK682 := Aside0.mk (blk_drew BK682.out)
                                  replace HB := Aside0.mk (below_drew1 HB.out)
                                  have p709 : 0 ≤ (x17_6 : Int) := of_decide_eq_true (by first | (with_reducible assumption) | assumption)
                                  have q709 : x17_6 < (l1.length : Int) := of_decide_eq_true (by first | (with_reducible assumption) | assumption)
                                  obtain ⟨ad709, e709, hx709_0⟩ := Kd.at_int HR1.out x17_6 p709 q709
                                  have hw709_0 := hx709_0
                                  cases e709
                                  replace hx709_0 := hcell HB.out hx709_0
                                  replace p709 := eq_true p709
                                  replace q709 := eq_true q709
                                  have p710 : 0 ≤ (x17_6 : Int) := of_decide_eq_true (by first | (with_reducible assumption) | assumption)
                                  have q710 : x17_6 < (l2.length : Int) := of_decide_eq_true (by first | (with_reducible assumption) | assumption)
                                  obtain ⟨ad710, e710, hx710_0⟩ := Kd.at_int HR2.out x17_6 p710 q710
                                  have hw710_0 := hx710_0
                                  cases e710
                                  replace hx710_0 := hcell HB.out hx710_0
                                  replace p710 := eq_true p710
                                  replace q710 := eq_true q710
                                  have p712 : 0 ≤ (x17_6 : Int) := of_decide_eq_true (by first | (with_reducible assumption) | assumption)
                                  have q712 : x17_6 < (x13_5.length : Int) := of_decide_eq_true (by first | (with_reducible assumption) | assumption)
                                  try (obtain ⟨Aq_, cq_, eq_⟩ := Kd.R_slice HO_13.out; subst eq_)
                                  obtain ⟨ad712, e712, hx712_0⟩ := Kd.at_bool (Kd.R_reads' HO_13.out).2.2 x17_6 p712 q712
                                  (try rw [← Nbq132.out] at hx712_0)
                                  cases e712
                                  replace p712 := eq_true p712
                                  replace q712 := eq_true q712
                                  refine start_ (n := 20) (S := fun w' => w'.cell? ⟨gb673, 0, none⟩ = some (.slice A0_0 l0_0.length c0_0) ∧ w'.cell? ⟨gb673, 1, none⟩ = some (.slice A0_1 l0_1.length c0_1) ∧ w'.cell? (ad709.add (x17_6).toNat) = some (.int .i64 (rd l1 x17_6)) ∧ w'.cell? (ad710.add (x17_6).toNat) = some (.int .i64 (rd l2 x17_6)) ∧ w'.cell? (ad712.add (x17_6).toNat) = some (.bool false)) (ds := []) (bl 20 0) (by kernel_rfl) rfl rfl ⟨(blk_cell BK673.out 0).trans rfl, (blk_cell BK673.out 1).trans rfl, (hcell HB.out hw709_0), (hcell HB.out hw710_0), hx712_0⟩ (fun hHeld => ?_); refine with_tabW quinarialaw02_ChannelNarrow.tab30 quinarialaw02_ChannelNarrow.bits30 (fun HT_ HW_ => ?_)
                                  generalize wr.drew = w137 at HO_13 BK673 BK682 HB hx709_0 hx710_0 hx712_0 hHeld ⊢
                                  refine pu 1 199 20 2 ?_
                                  refine pu 2 200 20 6 ?_
                                  refine pu 3 201 20 14 ?_
                                  refine pu 4 202 20 30 ?_
                                  refine pu 6 204 20 94 ?_
                                  refine pu 7 205 20 222 ?_
                                  refine pu 8 206 20 478 ?_
                                  refine pu 11 209 20 2526 ?_
                                  refine tk5 0 198 20 2527 hHeld ?_
                                  refine tk5 5 203 20 2559 hHeld ?_
                                  refine tk5 9 207 20 3071 hHeld ?_
                                  refine one_ (i := 10) (N := some 208) (bl 20 4095) rfl rfl (one_of HT_.out (by kernel_rfl)) (by decide) (fun K hK => ?_)
                                  refine goes_ Tryz.func19 (by kernel_rfl) rfl #[.agg #[.slice A0_0 l0_0.length c0_0, .slice A0_1 l0_1.length c0_1], .int .i64 x17_6, .int .i64 (rd l1 x17_6), .int .i64 (rd l2 x17_6)] (by rfl) rfl rfl uM ?_
                                  with_reducible refine (quinariaref02_Cups.calls _ _ l0_0 _ _ l0_1 x17_6 (rd l1 x17_6) (rd l2 x17_6) t711 _ ?side1 ?side2 ?side3 ?side4 A129.out).mono ?_
                                  (case side1 => repeat (first | exact (Kd.C_below HR0_0.out HB.out) | (with_reducible refine Kd.C_alloc ?_ _) | (with_reducible refine Kd.C_drewN ?_ _) | (with_reducible refine Kd.C_drew ?_)))
                                  (case side2 => exact HC0_0.out)
                                  (case side3 => repeat (first | exact (Kd.C_below HR0_1.out HB.out) | (with_reducible refine Kd.C_alloc ?_ _) | (with_reducible refine Kd.C_drewN ?_ _) | (with_reducible refine Kd.C_drew ?_)))
                                  (case side4 => exact HC0_1.out)
                                  rintro e w138 ⟨rfl, hb⟩
                                  have HS4_ := (hb.cell (World.block_lt_of_cell? _ _ (hHeld.2.2.2.2))).trans (hHeld.2.2.2.2)
                                  refine ⟨_, rfl, ?_⟩
                                  replace HO_13 := Aside0.mk (Kd.R_below (uR HO_13.out) hb)
                                  replace BK673 := Aside0.mk (blk_below (uK BK673.out) hb)
                                  replace BK682 := Aside0.mk (blk_below (uK BK682.out) hb)
                                  replace HB := Aside0.mk (below_step uB hb)
                                  (try clear hb)
                                  (try clear hb2)
                                  (try clear hk)
                                  (try clear hi)
                                  obtain ⟨Ao139, co139, eo139⟩ := Kd.R_slice HO_13.out
                                  (first | subst eo139 | (injection eo139 with f1_ f2_ f3_; have f4_ := f1_.symm; have f5_ := f3_.symm; clear f1_ f2_ f3_; subst f4_; subst f5_))
                                  refine hK.out _ _ ⟨(blk_cell BK673.out 0).trans rfl, (blk_cell BK673.out 1).trans rfl, (hcell HB.out hw709_0), (hcell HB.out hw710_0), HS4_⟩ (fun hHeld => ?_)
                                  clear hK K
                                  refine nm ?_
                                  refine pu 12 210 20 8191 ?_
                                  refine pu 13 211 20 16383 ?_
                                  refine pu 14 212 20 32767 ?_
                                  refine pu 15 213 20 65535 ?_
                                  refine pu 16 214 20 131071 ?_
                                  refine tk5 17 215 20 262143 hHeld ?_
                                  refine pu 18 216 20 524287 ?_
                                  refine pu 19 217 20 1048575 ?_
                                  refine done_ (done_of HT_.out (by kernel_rfl)) ?_
                                  try go_wp2
                                  go_ret
                                  exact ⟨uE, uB⟩
                               ·rw [if_neg c130] at H
                                have c130b0 : (t711 == x11_3) = false := beq_eq_false_iff_ne.mpr c130
                                have c130b1 : (t711 != x11_3) = true := bne_iff_ne.mpr c130
                                have H' := Aside0.mk H
                                clear H
                                try go_wp2
                                replace HO_13 := Aside0.mk (Kd.R_drew HO_13.out)
                                replace BK673 := Aside0.mk (blk_drew BK673.out)
                                replace BK682 := Aside0.mk (blk_drew BK682.out)
                                replace HB := Aside0.mk (below_drew1 HB.out)
                                have p709 : 0 ≤ (x17_6 : Int) := of_decide_eq_true (by first | (with_reducible assumption) | assumption)
                                have q709 : x17_6 < (l1.length : Int) := of_decide_eq_true (by first | (with_reducible assumption) | assumption)
                                obtain ⟨ad709, e709, hx709_0⟩ := Kd.at_int HR1.out x17_6 p709 q709
                                have hw709_0 := hx709_0
                                cases e709
                                replace hx709_0 := hcell HB.out hx709_0
                                replace p709 := eq_true p709
                                replace q709 := eq_true q709
                                have p710 : 0 ≤ (x17_6 : Int) := of_decide_eq_true (by first | (with_reducible assumption) | assumption)
                                have q710 : x17_6 < (l2.length : Int) := of_decide_eq_true (by first | (with_reducible assumption) | assumption)
                                obtain ⟨ad710, e710, hx710_0⟩ := Kd.at_int HR2.out x17_6 p710 q710
                                have hw710_0 := hx710_0
                                cases e710
                                replace hx710_0 := hcell HB.out hx710_0
                                replace p710 := eq_true p710
                                replace q710 := eq_true q710
                                refine start_ (n := 20) (S := fun w' => w'.cell? ⟨gb673, 0, none⟩ = some (.slice A0_0 l0_0.length c0_0) ∧ w'.cell? ⟨gb673, 1, none⟩ = some (.slice A0_1 l0_1.length c0_1) ∧ w'.cell? (ad709.add (x17_6).toNat) = some (.int .i64 (rd l1 x17_6)) ∧ w'.cell? (ad710.add (x17_6).toNat) = some (.int .i64 (rd l2 x17_6))) (ds := []) (bl 20 0) (by kernel_rfl) rfl rfl ⟨(blk_cell BK673.out 0).trans rfl, (blk_cell BK673.out 1).trans rfl, (hcell HB.out hw709_0), (hcell HB.out hw710_0)⟩ (fun hHeld => ?_); refine with_tabW quinarialaw02_ChannelNarrow.tab30 quinarialaw02_ChannelNarrow.bits30 (fun HT_ HW_ => ?_)
                                generalize wr.drew = w140 at HO_13 BK673 BK682 HB hx709_0 hx710_0 hHeld ⊢
                                refine pu 1 199 20 2 ?_
                                refine pu 2 200 20 6 ?_
                                refine pu 3 201 20 14 ?_
                                refine pu 4 202 20 30 ?_
                                refine pu 6 204 20 94 ?_
                                refine pu 7 205 20 222 ?_
                                refine pu 8 206 20 478 ?_
                                refine pu 11 209 20 2526 ?_
                                refine tk4 0 198 20 2527 hHeld ?_
                                refine tk4 5 203 20 2559 hHeld ?_
                                refine tk4 9 207 20 3071 hHeld ?_
                                refine one_ (i := 10) (N := some 208) (bl 20 4095) rfl rfl (one_of HT_.out (by kernel_rfl)) (by decide) (fun K hK => ?_)
                                refine goes_ Tryz.func19 (by kernel_rfl) rfl #[.agg #[.slice A0_0 l0_0.length c0_0, .slice A0_1 l0_1.length c0_1], .int .i64 x17_6, .int .i64 (rd l1 x17_6), .int .i64 (rd l2 x17_6)] (by rfl) rfl rfl uM ?_
                                with_reducible refine (quinariaref02_Cups.calls _ _ l0_0 _ _ l0_1 x17_6 (rd l1 x17_6) (rd l2 x17_6) t711 _ ?side1 ?side2 ?side3 ?side4 A129.out).mono ?_
                                (case side1 => repeat (first | exact (Kd.C_below HR0_0.out HB.out) | (with_reducible refine Kd.C_alloc ?_ _) | (with_reducible refine Kd.C_drewN ?_ _) | (with_reducible refine Kd.C_drew ?_)))
                                (case side2 => exact HC0_0.out)
                                (case side3 => repeat (first | exact (Kd.C_below HR0_1.out HB.out) | (with_reducible refine Kd.C_alloc ?_ _) | (with_reducible refine Kd.C_drewN ?_ _) | (with_reducible refine Kd.C_drew ?_)))
                                (case side4 => exact HC0_1.out)
                                rintro e w141 ⟨rfl, hb⟩
                                refine ⟨_, rfl, ?_⟩
                                replace HO_13 := Aside0.mk (Kd.R_below (uR HO_13.out) hb)
                                replace BK673 := Aside0.mk (blk_below (uK BK673.out) hb)
                                replace BK682 := Aside0.mk (blk_below (uK BK682.out) hb)
                                replace HB := Aside0.mk (below_step uB hb)
                                (try clear hb)
                                (try clear hb2)
                                (try clear hk)
                                (try clear hi)
                                refine hK.out _ _ ⟨(blk_cell BK673.out 0).trans rfl, (blk_cell BK673.out 1).trans rfl, (hcell HB.out hw709_0), (hcell HB.out hw710_0)⟩ (fun hHeld => ?_)
                                clear hK K
                                refine nm ?_
                                refine pu 12 210 20 8191 ?_
                                refine pu 13 211 20 16383 ?_
                                refine pure_ (i := 14) (N := some 212) (v := undef) (a' := ?_) (bl 20 32767) rfl rfl (any_of HT_.out (by kernel_rfl)) (fun _ _ _ h => h) (Or.inr ⟨by rfl, rfl⟩) ?_ ?_
                                rotate_left
                                ·simp only [Act.put, List.setIfInBounds_toArray, List.set_cons_zero, List.set_cons_succ, i64_w, i32_w]
                                 rfl
                                refine pure_ (i := 15) (N := some 213) (v := undef) (a' := ?_) (bl 20 65535) rfl rfl (any_of HT_.out (by kernel_rfl)) (fun _ _ _ h => h) (Or.inr ⟨by rfl, rfl⟩) ?_ ?_
                                rotate_left
                                ·simp only [Act.put, List.setIfInBounds_toArray, List.set_cons_zero, List.set_cons_succ, i64_w, i32_w]
                                 rfl
                                refine pure_ (i := 16) (N := some 214) (v := undef) (a' := ?_) (bl 20 131071) rfl rfl (any_of HT_.out (by kernel_rfl)) (fun _ _ _ h => h) (Or.inr ⟨by rfl, rfl⟩) ?_ ?_
                                rotate_left
                                ·simp only [Act.put, List.setIfInBounds_toArray, List.set_cons_zero, List.set_cons_succ, i64_w, i32_w]
                                 rfl
                                refine pure_ (i := 17) (N := some 215) (v := undef) (a' := ?_) (bl 20 262143) rfl rfl (any_of HT_.out (by kernel_rfl)) (fun _ _ _ h => h) (Or.inr ⟨by rfl, rfl⟩) ?_ ?_
                                rotate_left
                                ·simp only [Act.put, List.setIfInBounds_toArray, List.set_cons_zero, List.set_cons_succ, i64_w, i32_w]
                                 rfl
                                refine pure_ (i := 18) (N := some 216) (v := undef) (a' := ?_) (bl 20 524287) rfl rfl (any_of HT_.out (by kernel_rfl)) (fun _ _ _ h => h) (Or.inr ⟨by rfl, rfl⟩) ?_ ?_
                                rotate_left
                                ·simp only [Act.put, List.setIfInBounds_toArray, List.set_cons_zero, List.set_cons_succ, i64_w, i32_w]
                                 rfl
                                refine pu 19 217 20 1048575 ?_
                                refine done_ (done_of HT_.out (by kernel_rfl)) ?_
                                try go_wp2
                                go_roundg k6
                                case measure => have := HJ3.out; have := HJ40.out; have := HK3.out; have := HJ61.out; have := HK5.out; have := HK6.out; omega
                                case rel => exact ⟨(wrap64 (x17_6 + 1)), u0, H', ⟨by have := HJ3.out; have := HJ40.out; have := HK3.out; have := HJ61.out; have := HK5.out; have := HK6.out; omega⟩, ⟨uR HO_13.out⟩, ⟨uK BK673.out⟩, ⟨uK BK682.out⟩, ⟨uB⟩⟩
                             ·rw [if_neg c126] at H
                              replace c126 := decide_eq_false c126
                              replace H := Option.bind_eq_some_iff.mp H
                              obtain ⟨t713, A1420, H⟩ := H
                              replace H : (some t713) = some r := H
                              have A142 := Aside0.mk A1420
                              clear A1420
                              obtain rfl := Option.some.inj H
                              go_wp2_with (first | ((with_reducible refine gate_callee (f := 17) rfl ?_); refine goesL_ (some 218) rfl rfl Tryz.func17 (by kernel_rfl) rfl #[] rfl uM ?_; (with_reducible refine (quinarialaw02_known.calls k6  t713 _ ?sideT A142.out).mono ?_); (case sideT => exact HT.out.below uB); rintro e w143 ⟨rfl, hb⟩; refine ⟨_, rfl, ?_⟩; replace HO_13 := Aside0.mk (Kd.R_below (uR HO_13.out) hb); replace BK673 := Aside0.mk (blk_below (uK BK673.out) hb); replace BK682 := Aside0.mk (blk_below (uK BK682.out) hb); replace HB := Aside0.mk (below_step uB hb); (try clear hb); (try clear hb2); (try clear hk); (try clear hi)))
                              go_ret
                              exact ⟨uE, uB⟩
end Go.Proofs.YtdmdahafiiggiaaGreatDoor.K
end
section
namespace Go.Proofs.YtdmdahafiiggiaaGreatDoor.K
open Go.RowKit Go.Proofs.YtdmdahafiiggiaaGreatDoorW.PrintWords Go.Proofs.YtdmdahafiiggiaaGreatDoorW.PrintLast Go.Proofs.YtdmdahafiiggiaaGreatDoorW.PrintMore
set_option linter.unusedVariables false
set_option linter.unusedSimpArgs false
theorem cupsN_anti {sp : List Int} {st : List S32} (h : isLineB sp st = true) {n : Int} (hn : numB st n = true) {a a' r r' : Int} (a0 : 0 ≤ a) (ha : a ≤ a') (r0 : 0 ≤ r) (hr : r ≤ r') : cupsN sp st n a' r' ≤ cupsN sp st n a r := by
  have hn := num_range hn
  have hs := line_at h hn.1 hn.2
  unfold cupsN
  have h1 : r * a ≤ r' * a' := Int.mul_le_mul hr ha a0 (by omega)
  have h0 : 0 ≤ r * a := Int.mul_nonneg r0 a0
  have hl : r * a / 100 ≤ r' * a' / 100 := Int.ediv_le_ediv (by omega) h1
  have hl0 : 0 ≤ r * a / 100 := by omega
  generalize r * a / 100 = l at *
  generalize r' * a' / 100 = l' at *
  generalize rd_T32 st n = s at *
  unfold carry
  have := hs.s0
  have m1 : mx 0 (s.f0 - 2 * l') ≤ mx 0 (s.f0 - 2 * l) := by unfold mx; split <;> split <;> omega
  have m2 : mx 0 (s.f1 - l') ≤ mx 0 (s.f1 - l) := by unfold mx; split <;> split <;> omega
  exact Int.mul_le_mul_of_nonneg_right (Int.mul_le_mul m1 m2 (mx_ge 0 _).1 (mx_ge 0 _).1) (by omega)
end Go.Proofs.YtdmdahafiiggiaaGreatDoor.K
end
section
namespace Go.Proofs.YtdmdahafiiggiaaGreatDoor.K
open Go.RowKit Go.Proofs.YtdmdahafiiggiaaGreatDoorW.PrintWords Go.Proofs.YtdmdahafiiggiaaGreatDoorW.PrintLast Go.Proofs.YtdmdahafiiggiaaGreatDoorW.PrintMore
attribute [local go_sem] max2_int min2_int max_two min_two max_three min_three max_four min_four
set_option linter.unusedVariables false
set_option linter.unusedSimpArgs false
def quinariaref02_Carries.l0 : Nat → Int → Int → Int → List Int → List (S32) → Int → Int → Option (Int × Int)
 | 0, _, _, _, _, _, _, _ => none
 | k + 1, x1, x2, x8, x625000, x625001, x627000, x627001 => if 0 ≤ x1 then (if x1 < (x625001.length : Int) then (if x8 ≤ ((rd_T32 x625001 x1).f3.f1) then ((quinariaref02_Cups.f x625000 x625001 x1 x2 x8).bind fun t629 => (quinariaref02_Carries.l0 k x1 x2 (wrap64 (x8 + 1)) x625000 x625001 (mn x627000 t629) (mx x627001 t629))) else (some (x627000, x627001))) else (none)) else (none)
def quinariaref02_Carries.f (k : Nat) (l0_0 : List Int) (l0_1 : List (S32)) (a1 : Int) (a2 : Int) : Option (Int × Int) := if 0 ≤ a1 then (if a1 < (l0_1.length : Int) then (quinariaref02_Carries.l0 k a1 a2 ((rd_T32 l0_1 a1).f3.f0) l0_0 l0_1 10000001 (-1)) else (none)) else (none)
end Go.Proofs.YtdmdahafiiggiaaGreatDoor.K
end
section
namespace Go.Proofs.YtdmdahafiiggiaaGreatDoor.K
open Go.RowKit Go.Proofs.YtdmdahafiiggiaaGreatDoorW.PrintWords Go.Proofs.YtdmdahafiiggiaaGreatDoorW.PrintLast Go.Proofs.YtdmdahafiiggiaaGreatDoorW.PrintMore
attribute [local go_sem] max2_int min2_int max_two min_two max_three min_three max_four min_four
set_option linter.unusedVariables false
set_option linter.unusedSimpArgs false
def quinariaref02_Line.l0 : Nat → List Int → Int → List Int → List (S32) → Int → Int → Option (Int × Int)
 | 0, _, _, _, _, _, _ => none
 | k + 1, x1, x6, x631000, x631001, x633000, x633001 => if x6 < (x631001.length : Int) then (if 0 ≤ x6 then (if x6 < (x1.length : Int) then ((quinariaref02_Carries.f k x631000 x631001 x6 (rd x1 x6)).bind fun bt634 => (quinariaref02_Line.l0 k x1 (wrap64 (x6 + 1)) x631000 x631001 (mn x633000 bt634.1) (mn x633001 bt634.2))) else (none)) else (none)) else (some (x633000, x633001))
def quinariaref02_Line.f (k : Nat) (l0_0 : List Int) (l0_1 : List (S32)) (l1 : List Int) : Option (Int × Int) := quinariaref02_Line.l0 k l1 0 l0_0 l0_1 10000001 10000001
end Go.Proofs.YtdmdahafiiggiaaGreatDoor.K
end
section
namespace Go.Proofs.YtdmdahafiiggiaaGreatDoor.K
open Go.RowKit Go.Proofs.YtdmdahafiiggiaaGreatDoorW.PrintWords Go.Proofs.YtdmdahafiiggiaaGreatDoorW.PrintLast Go.Proofs.YtdmdahafiiggiaaGreatDoorW.PrintMore
attribute [local go_sem] max2_int min2_int max_two min_two max_three min_three max_four min_four
set_option linter.unusedVariables false
set_option linter.unusedSimpArgs false
mutual
def quinariaref02_Narrowest.l0 : Nat → List Int → List Int → Int → List Int → List (S32) → Option (List Int)
 | 0, _, _, _, _, _ => none
 | k + 1, x1, x5, x6, x638000, x638001 => if x6 < (x638001.length : Int) then (if 0 ≤ x6 then (if x6 < (x1.length : Int) then ((quinariaref02_Carries.f k x638000 x638001 x6 (rd x1 x6)).bind fun bt639 => (quinariaref02_Narrowest.l1 k x1 x5 x6 bt639.1 true 0 x638000 x638001)) else (none)) else (none)) else (some x5)
def quinariaref02_Narrowest.l1 : Nat → List Int → List Int → Int → Int → Bool → Int → List Int → List (S32) → Option (List Int)
 | 0, _, _, _, _, _, _, _, _ => none
 | k + 1, x1, x5, x6, x7, x8, x9, x638000, x638001 => if x9 < (x638001.length : Int) then (if x8 = true then (if x9 = x6 then (quinariaref02_Narrowest.l1 k x1 x5 x6 x7 true (wrap64 (x9 + 1)) x638000 x638001) else (if 0 ≤ x9 then (if x9 < (x1.length : Int) then ((quinariaref02_Carries.f k x638000 x638001 x9 (rd x1 x9)).bind fun bt642 => (quinariaref02_Narrowest.l1 k x1 x5 x6 x7 (decide (x7 ≤ bt642.2)) (wrap64 (x9 + 1)) x638000 x638001)) else (none)) else (none))) else (quinariaref02_Narrowest.l1 k x1 x5 x6 x7 false (wrap64 (x9 + 1)) x638000 x638001)) else (if x8 = true then (if x5.length < 17592186044416 then (quinariaref02_Narrowest.l0 k x1 (x5 ++ [x6]) (wrap64 (x6 + 1)) x638000 x638001) else (none)) else (quinariaref02_Narrowest.l0 k x1 x5 (wrap64 (x6 + 1)) x638000 x638001))
end
def quinariaref02_Narrowest.f (k : Nat) (l0_0 : List Int) (l0_1 : List (S32)) (l1 : List Int) : Option (List Int) := quinariaref02_Narrowest.l0 k l1 ([] : List Int) 0 l0_0 l0_1
end Go.Proofs.YtdmdahafiiggiaaGreatDoor.K
end
section
namespace Go.Proofs.YtdmdahafiiggiaaGreatDoor.K
open Go.RowKit Go.Proofs.YtdmdahafiiggiaaGreatDoorW.PrintWords Go.Proofs.YtdmdahafiiggiaaGreatDoorW.PrintLast Go.Proofs.YtdmdahafiiggiaaGreatDoorW.PrintMore
set_option linter.unusedVariables false
set_option linter.unusedSimpArgs false
abbrev ST := S32
abbrev SPN := S30
variable {sp : List Int} {st : List ST}
theorem w1 {x : Int} (h0 : -1 ≤ x) (h : x < 9223372036854775807) : wrap64 (x + 1) = x + 1 := IntWalk.wrap64_in _ (by omega)
theorem drop_get {α : Type} {l : List α} {j : Nat} {a : α} {r : List α} (h : l.drop j = a :: r) : j < l.length ∧ l.drop (j + 1) = r ∧ ∀ d, l.getD j d = a := by
  have hj : j < l.length := by
    rcases Nat.lt_or_ge j l.length with h1 | h1
    · exact h1
    · rw [List.drop_eq_nil_of_le h1] at h; cases h
  rw [List.drop_eq_getElem_cons hj] at h
  injection h with h1 h2
  exact ⟨hj, h2, fun d => by simp [List.getD, List.getElem?_eq_getElem hj, h1]⟩
theorem rd_drop {l : List Int} {j : Nat} {a : Int} {r : List Int} (h : l.drop j = a :: r) : rd l (j : Int) = a := by simp only [rd, Int.toNat_natCast]; exact (drop_get h).2.2 0
theorem rd_at (l : List Int) (j : Nat) : rd l (j : Int) = l.getD j 0 := by simp [rd]
theorem getD_mem {α : Type} {l : List α} {j : Nat} (d : α) (h : j < l.length) : l.getD j d ∈ l := by
  rw [List.getD, List.getElem?_eq_getElem h]
  exact List.getElem_mem h
theorem short_f (sp : List Int) (st : List ST) : quinarialaw02_short.f sp st = some (shortB sp st) := by
  unfold quinarialaw02_short.f shortB
  by_cases h1 : sp.length ≤ 13
  · rw [if_pos (by omega)]
    by_cases h2 : st.length ≤ 10
    · simp [h1, h2]; omega
    · simp [h1, h2]; omega
  · rw [if_neg (by omega)]; simp [h1]
theorem cupsN_range (h : isLineB sp st = true) {n age rate : Int} (hn : numB st n = true) (a0 : 0 ≤ age) (r0 : 0 ≤ rate) : 0 ≤ cupsN sp st n age rate ∧ cupsN sp st n age rate ≤ 10000000 := by
  have hn := num_range hn
  have hs := line_at h hn.1 hn.2
  have hp : 0 ≤ rate * age := Int.mul_nonneg r0 a0
  unfold cupsN
  have hl : 0 ≤ rate * age / 100 := by omega
  generalize rate * age / 100 = l at *
  generalize rd_T32 st n = s at *
  obtain ⟨b0, b1, d0, d1, -, -, -, -, -, s0, s1⟩ := hs
  unfold carry
  have hp := prod_range (mx_ge 0 (s.f0 - 2 * l)).1 (mx_le (show (0 : Int) ≤ 100 by omega) (show s.f0 - 2 * l ≤ 100 by omega)) (mx_ge 0 (s.f1 - l)).1 (mx_le (show (0 : Int) ≤ 100 by omega) (show s.f1 - l ≤ 100 by omega)) (show 0 ≤ rd sp s.f2 by omega) s1
  omega
theorem ages_from (ages : List Int) (hl : ages.length ≤ 1000000) (hs : st.length ≤ 1000000) : ∀ (d j K : Nat), j + d = ages.length → d < K → quinariaref02_Ages.l0 K ages (j : Int) sp st = some ((ages.drop j).all (fun x => inB x 0 200) && (ages.length == st.length))
  | 0, j, K + 1, hj, hK => by
    unfold quinariaref02_Ages.l0
    rw [if_neg (by omega), List.drop_eq_nil_of_le (by omega), List.all_nil, Bool.true_and]
    congr 1
    rw [beq_cast]
    by_cases e : ages.length = st.length <;> simp [e]
  | d + 1, j, K + 1, hj, hK => by
    unfold quinariaref02_Ages.l0 quinariaref02_Age.f
    rw [if_pos (by omega), if_pos (by omega), inR_f, Option.bind_some, Option.bind_some, w1 (by omega) (by omega), all_drop _ 0 _ _ (by omega)]
    have e : rd ages (j : Int) = ages.getD j 0 := by simp [rd]
    rw [e]
    have ih := ages_from ages hl hs d (j + 1) K (by omega) (by omega)
    cases h1 : inB (ages.getD j 0) 0 200 with
    | true => simpa using ih
    | false => simp
theorem ages_f (ages : List Int) (hl : ages.length ≤ 1000000) (hs : st.length ≤ 1000000) (K : Nat) (hK : ages.length < K) : quinariaref02_Ages.f K sp st ages = some (areAgesB st.length ages) := by
  unfold quinariaref02_Ages.f areAgesB
  have := ages_from (sp := sp) ages hl hs ages.length 0 K (by omega) hK
  rw [show ((0 : Nat) : Int) = 0 from rfl] at this
  rw [this, List.drop_zero, Bool.and_comm]
def spansN (sp : List Int) (st : List ST) (j : Nat) : List Int → List SPN
  | [] => []
  | a :: l => ⟨leastN sp st j a, mostN sp st j a⟩ :: spansN sp st (j + 1) l
theorem spansN_len (j : Nat) (l : List Int) : (spansN sp st j l).length = l.length := by
  induction l generalizing j with
  | nil => rfl
  | cons a l ih => simp [spansN, ih]
theorem numB_of {j : Nat} (h : j < st.length) : numB st (j : Int) = true := by simp [numB, inB]; omega
theorem ages_all {ages : List Int} (h : areAgesB st.length ages = true) : ages.length = st.length ∧ ∀ a ∈ ages, inB a 0 200 = true := by
  simp only [areAgesB, Bool.and_eq_true, beq_iff_eq] at h
  exact ⟨h.1, fun a ha => List.all_eq_true.mp h.2 a ha⟩
theorem spans_from (h : isLineB sp st = true) {ages : List Int} (hg : areAgesB st.length ages = true) : ∀ (rest : List Int) (j : Nat) (acc : List SPN) (K : Nat), ages.drop j = rest → acc.length = j → rest.length < K →
    channel_spans.l0 K acc ages (ages.length : Int) (j : Int) sp st = some (acc ++ spansN sp st j rest)
  | [], j, acc, K + 1, hd, hc, hK => by
    have : ages.length ≤ j := by simpa using hd
    unfold channel_spans.l0
    rw [if_neg (by omega)]
    simp [spansN]
  | a :: rest, j, acc, K + 1, hd, hc, hK => by
    obtain ⟨hj, hd1, -⟩ := drop_get hd
    obtain ⟨hl, hall⟩ := ages_all hg
    have hlen := line_lens h
    have ha := hall a (by have : a ∈ ages.drop j := by rw [hd]; exact List.mem_cons_self ..
                          exact List.mem_of_mem_drop this)
    have ha' := age_range ha
    unfold channel_spans.l0
    rw [if_pos (by omega), if_pos (by omega), if_pos (by omega), rd_drop hd, aging_ok h (by omega) (by omega), Option.bind_some]
    unfold channel_aged_span.f
    simp only [least_ok h (show (0 : Int) ≤ (j : Int) by omega) (show (j : Int) < st.length by omega) ha'.1 ha'.2, most_ok h (show (0 : Int) ≤ (j : Int) by omega) (show (j : Int) < st.length by omega) ha'.1 ha'.2, Option.bind_some]
    rw [if_pos (by omega), w1 (by omega) (by omega)]
    have ih := spans_from h hg rest (j + 1) (acc ++ [⟨leastN sp st j a, mostN sp st j a⟩]) K hd1 (by simp [hc]) (by simp at hK; omega)
    rw [show ((j + 1 : Nat) : Int) = (j : Int) + 1 by omega] at ih
    rw [ih]
    simp [spansN]
theorem spans_f (h : isLineB sp st = true) {ages : List Int} (hg : areAgesB st.length ages = true) (K : Nat) (hK : ages.length < K) : channel_spans.f K sp st ages = some (spansN sp st 0 ages) := by
  unfold channel_spans.f
  have := spans_from h hg ages 0 [] K rfl rfl hK
  simpa using this
theorem lowest_from (l : List Int) (hl : l.length ≤ 1000000) : ∀ (rest : List Int) (j : Nat) (x : Int) (K : Nat), l.drop j = rest → rest.length < K → channel_lowest.l0 K x l (l.length : Int) (j : Int) = some (rest.foldl mn x)
  | [], j, x, K + 1, hd, hK => by
    have : l.length ≤ j := by simpa using hd
    unfold channel_lowest.l0
    rw [if_neg (by omega)]
    rfl
  | a :: rest, j, x, K + 1, hd, hK => by
    obtain ⟨hj, hd1, -⟩ := drop_get hd
    unfold channel_lowest.l0
    rw [if_pos (by omega), if_pos (by omega), if_pos (by omega), rd_drop hd, w1 (by omega) (by omega)]
    have ih := lowest_from l hl rest (j + 1) (mn x a) K hd1 (by simp at hK; omega)
    rw [show ((j + 1 : Nat) : Int) = (j : Int) + 1 by omega] at ih
    exact ih
theorem lowest_f (x : Int) (l : List Int) (hl : l.length ≤ 1000000) (K : Nat) (hK : l.length < K) : channel_lowest.f K x l = some (l.foldl mn x) := by
  unfold channel_lowest.f
  have := lowest_from l hl l 0 x K rfl hK
  simpa using this
theorem rdT_drop {l : List SPN} {j : Nat} {a : SPN} {r : List SPN} (h : l.drop j = a :: r) : rd_T30 l (j : Int) = a := by simp only [rd_T30, Int.toNat_natCast]; exact (drop_get h).2.2 _
theorem line_from (S : List SPN) (hS : S.length ≤ 1000) (hS0 : S ≠ []) : ∀ (rest : List SPN) (j : Nat) (lo hi : List Int) (K : Nat), S.drop j = rest → lo.length = j → hi.length = j → lo ++ rest.map (·.f0) = S.map (·.f0) → hi ++ rest.map (·.f1) = S.map (·.f1) → rest.length + S.length + 2 < K →
    channel_Line.l0 K lo hi S (S.length : Int) (j : Int) = some ((S.map (·.f0)).foldl mn (rd (S.map (·.f0)) 0), (S.map (·.f1)).foldl mn (rd (S.map (·.f1)) 0), 0)
  | [], j, lo, hi, K + 1, hd, h1, h2, e1, e2, hK => by
    have : S.length ≤ j := by simpa using hd
    have hp : 0 < S.length := List.length_pos_iff.mpr hS0
    rw [List.map_nil, List.append_nil] at e1 e2
    subst e1 e2
    simp only [List.length_map] at h1 h2
    unfold channel_Line.l0
    rw [if_neg (by omega), if_pos (by simp; omega), lowest_f _ _ (by simp; omega) K (by simp at hK ⊢; omega), Option.bind_some, if_pos (by simp; omega), lowest_f _ _ (by simp; omega) K (by simp at hK ⊢; omega), Option.bind_some]
  | a :: rest, j, lo, hi, K + 1, hd, h1, h2, e1, e2, hK => by
    obtain ⟨hj, hd1, -⟩ := drop_get hd
    unfold channel_Line.l0
    rw [if_pos (by omega), if_pos (by omega), if_pos (by omega), rdT_drop hd, Option.bind_some, if_pos (by simp; omega), Option.bind_some, if_pos (by simp; omega), w1 (by omega) (by omega)]
    have ih := line_from S hS hS0 rest (j + 1) (lo ++ [a.f0]) (hi ++ [a.f1]) K hd1 (by simp [h1]) (by simp [h2]) (by simpa using e1) (by simpa using e2) (by simp at hK; omega)
    rw [show ((j + 1 : Nat) : Int) = (j : Int) + 1 by omega] at ih
    exact ih
def minF (S : List SPN) : Int := (S.map (·.f0)).foldl mn 10000001
def minG (S : List SPN) : Int := (S.map (·.f1)).foldl mn 10000001
theorem foldl_first (l : List Int) (hl : l ≠ []) (hx : ∀ x ∈ l, x ≤ 10000001) : l.foldl mn (rd l 0) = l.foldl mn 10000001 := by
  cases l with
  | nil => exact absurd rfl hl
  | cons a l =>
    have := hx a (List.mem_cons_self ..)
    have e1 : mn (rd (a :: l) 0) a = a := by simp [rd, mn]
    have e2 : mn 10000001 a = a := by unfold mn; split <;> omega
    rw [List.foldl_cons, List.foldl_cons, e1, e2]
theorem spansN_mem (h : isLineB sp st = true) : ∀ (l : List Int) (j : Nat), j + l.length ≤ st.length → (∀ a ∈ l, inB a 0 200 = true) → ∀ s ∈ spansN sp st j l, 0 ≤ s.f0 ∧ s.f0 ≤ s.f1 ∧ s.f1 ≤ 10000000
  | [], j, _, _, s, hs => by simp [spansN] at hs
  | a :: l, j, hj, ha, s, hs => by
    simp only [spansN, List.mem_cons] at hs
    rcases hs with rfl | hs
    · have hn : numB st (j : Int) = true := numB_of (by simp at hj; omega)
      have hn' := num_range hn
      obtain ⟨-, -, -, -, -, -, l0, lh, lh1, -, -⟩ := line_at h hn'.1 hn'.2
      have ha' := age_range (ha a (List.mem_cons_self ..))
      exact ⟨(cupsN_range h hn ha'.1 (by omega)).1, cupsN_anti h hn ha'.1 (Int.le_refl _) l0 lh, (cupsN_range h hn ha'.1 l0).2⟩
    · exact spansN_mem h l (j + 1) (by simp at hj; omega) (fun x hx => ha x (List.mem_cons_of_mem _ hx)) s hs
theorem spans_mem (h : isLineB sp st = true) {ages : List Int} (hg : areAgesB st.length ages = true) : ∀ s ∈ spansN sp st 0 ages, 0 ≤ s.f0 ∧ s.f0 ≤ s.f1 ∧ s.f1 ≤ 10000000 := by
  obtain ⟨h1, h2⟩ := ages_all hg
  exact spansN_mem h ages 0 (by omega) h2
theorem spans_ne (h : isLineB sp st = true) {ages : List Int} (hg : areAgesB st.length ages = true) : spansN sp st 0 ages ≠ [] := by
  obtain ⟨h1, h2⟩ := ages_all hg
  have := line_lens h
  intro e
  have := congrArg List.length e
  rw [spansN_len, List.length_nil] at this
  omega
def lineF (sp : List Int) (st : List ST) (ages : List Int) : Int × Int × Int := if isLineB sp st = true ∧ areAgesB st.length ages = true then (minF (spansN sp st 0 ages), minG (spansN sp st 0 ages), 0) else (0, 0, 2)
theorem isLineC_f (h1 : sp.length ≤ 1000000) (h2 : st.length ≤ 1000000) : channel_isLine.f sp st = some (isLineB sp st) := by unfold channel_isLine.f; rw [if_pos ⟨by omega, by omega⟩]
theorem areAgesC_f (sp : List Int) (st : List ST) {ages : List Int} (h1 : ages.length ≤ 1000000) : channel_areAges.f sp st ages = some (areAgesB st.length ages) := by unfold channel_areAges.f; rw [if_pos (by omega)]
theorem line_f (h1 : sp.length ≤ 1000000) (h2 : st.length ≤ 1000000) {ages : List Int} (h3 : ages.length ≤ 1000000) (K : Nat) (hK : 100 < K) : channel_Line.f K sp st ages = some (lineF sp st ages) := by
  unfold channel_Line.f lineF
  rw [isLineC_f h1 h2, areAgesC_f sp st h3]
  obtain ⟨K, rfl⟩ : ∃ k, K = k + 1 := ⟨K - 1, by omega⟩
  cases e1 : isLineB sp st with
  | false => simp [channel_Line.j0]
  | true =>
    cases e2 : areAgesB st.length ages with
    | false => simp [channel_Line.j0]
    | true =>
      have hl := line_lens e1
      obtain ⟨ha, -⟩ := ages_all e2
      have hm := spans_mem e1 e2
      have := line_from (spansN sp st 0 ages) (by rw [spansN_len]; omega) (spans_ne e1 e2) (spansN sp st 0 ages) 0 [] [] K rfl rfl rfl rfl rfl (by rw [spansN_len]; omega)
      rw [foldl_first _ (by simpa using spans_ne e1 e2) (by intro x hx; obtain ⟨s, hs, rfl⟩ := List.mem_map.mp hx; have := hm s hs; omega), foldl_first _ (by simpa using spans_ne e1 e2) (by intro x hx; obtain ⟨s, hs, rfl⟩ := List.mem_map.mp hx; have := hm s hs; omega)] at this
      simp only [Option.bind_some, if_true, Bool.not_true, channel_Line.j0, Bool.false_eq_true, if_false, spans_f e1 e2 K (by omega), and_self]
      exact this
end Go.Proofs.YtdmdahafiiggiaaGreatDoor.K
end
section
namespace Go.Proofs.YtdmdahafiiggiaaGreatDoor.K
open Go.RowKit Go.Proofs.YtdmdahafiiggiaaGreatDoorW.PrintWords Go.Proofs.YtdmdahafiiggiaaGreatDoorW.PrintLast Go.Proofs.YtdmdahafiiggiaaGreatDoorW.PrintMore
set_option linter.unusedVariables false
set_option linter.unusedSimpArgs false
variable {sp : List Int} {st : List ST}
def zS : SPN := z30
def okFrom (S : List SPN) (i : Nat) : Nat → Nat → Bool
  | 0, _ => true
  | m + 1, k => (k == i || decide ((S.getD i zS).f0 ≤ (S.getD k zS).f1)) && okFrom S i m (k + 1)
def narFrom (S : List SPN) : Nat → Nat → List Int
  | 0, _ => []
  | d + 1, i => if okFrom S i S.length 0 then (i : Int) :: narFrom S d (i + 1) else narFrom S d (i + 1)
theorem narFrom_len (S : List SPN) : ∀ (d i : Nat), (narFrom S d i).length ≤ d
  | 0, i => Nat.le_refl _
  | d + 1, i => by
    have := narFrom_len S d (i + 1)
    unfold narFrom
    split
    · simp; omega
    · omega
theorem rdT_at (S : List SPN) (j : Nat) : rd_T30 S (j : Int) = S.getD j zS := by simp [rd_T30, zS]
theorem narC_in (S : List SPN) (hS : S.length ≤ 1000) (d i B : Nat) (hi : i < S.length) (ih : ∀ (out : List Int) (K : Nat), out.length ≤ i + 1 → B ≤ K → channel_Narrowest.l0 K S out S (S.length : Int) ((i : Int) + 1) = some (out ++ narFrom S d (i + 1), 0)) (out : List Int) (ho : out.length ≤ i) :
    ∀ (m k K : Nat), k + m = S.length → B + m < K → channel_Narrowest.l1 K S out (i : Int) S (S.length : Int) (i : Int) S (S.length : Int) (k : Int) (S.getD i zS).f0 (S.getD i zS).f1 = some ((if okFrom S i m k then out ++ [(i : Int)] else out) ++ narFrom S d (i + 1), 0)
  | 0, k, K + 1, hk, hK => by
    unfold channel_Narrowest.l1
    rw [if_neg (by omega), if_pos (by omega), w1 (by omega) (by omega), ih _ K (by simp; omega) (by omega)]
    simp [okFrom]
  | m + 1, k, K + 1, hk, hK => by
    unfold channel_Narrowest.l1
    rw [if_pos (by omega), if_pos (by omega), if_pos (by omega), rdT_at]
    have ih1 := narC_in S hS d i B hi ih out ho m (k + 1) K (by omega) (by omega)
    rw [show ((k + 1 : Nat) : Int) = (k : Int) + 1 by omega] at ih1
    unfold okFrom
    by_cases e : k = i
    · rw [if_pos (by omega), w1 (by omega) (by omega), ih1]
      simp [e]
    · rw [if_neg (by omega)]
      by_cases h : (S.getD i zS).f0 ≤ (S.getD k zS).f1
      · rw [if_neg (by omega), w1 (by omega) (by omega), ih1, decide_eq_true h]
        simp
      · rw [if_pos (by omega), w1 (by omega) (by omega), ih _ K (by omega) (by omega), decide_eq_false h]
        simp [e]
theorem narC_from (S : List SPN) (hS : S.length ≤ 1000) : ∀ (d i : Nat) (out : List Int) (K : Nat), i + d = S.length → out.length ≤ i → d * (S.length + 3) < K → channel_Narrowest.l0 K S out S (S.length : Int) (i : Int) = some (out ++ narFrom S d i, 0)
  | 0, i, out, K + 1, hi, ho, hK => by
    unfold channel_Narrowest.l0
    rw [if_neg (by omega)]
    simp [narFrom]
  | d + 1, i, out, K + 1, hi, ho, hK => by
    unfold channel_Narrowest.l0
    rw [if_pos (by omega), if_pos (by omega), if_pos (by omega), rdT_at]
    have hB : d * (S.length + 3) + 1 + S.length < K := by rw [Nat.add_mul] at hK; omega
    have := narC_in S hS d i (d * (S.length + 3) + 1) (by omega) (fun out K h1 h2 => by
      have := narC_from S hS d (i + 1) out K (by omega) h1 (by omega)
      rw [show ((i + 1 : Nat) : Int) = (i : Int) + 1 by omega] at this
      exact this) out ho S.length 0 K (by omega) hB
    rw [show ((0 : Nat) : Int) = 0 from rfl] at this
    rw [this]
    simp only [narFrom]
    split <;> simp
def narN (sp : List Int) (st : List ST) (ages : List Int) : List Int := narFrom (spansN sp st 0 ages) ages.length 0
def narF (sp : List Int) (st : List ST) (ages : List Int) : List Int × Int := if isLineB sp st = true ∧ areAgesB st.length ages = true then (narN sp st ages, 0) else ([], 2)
theorem nar_f (h1 : sp.length ≤ 1000000) (h2 : st.length ≤ 1000000) {ages : List Int} (h3 : ages.length ≤ 1000000) (K : Nat) (hK : 200 < K) : channel_Narrowest.f K sp st ages = some (narF sp st ages) := by
  unfold channel_Narrowest.f narF
  rw [isLineC_f h1 h2, areAgesC_f sp st h3]
  obtain ⟨K, rfl⟩ : ∃ k, K = k + 1 := ⟨K - 1, by omega⟩
  cases e1 : isLineB sp st with
  | false => simp [channel_Narrowest.j0]
  | true =>
    cases e2 : areAgesB st.length ages with
    | false => simp [channel_Narrowest.j0]
    | true =>
      have hl := line_lens e1
      obtain ⟨ha, -⟩ := ages_all e2
      have hn : (spansN sp st 0 ages).length = ages.length := spansN_len ..
      have hmul : ages.length * (ages.length + 3) ≤ 8 * (8 + 3) := Nat.mul_le_mul (by omega) (by omega)
      have := narC_from (spansN sp st 0 ages) (by omega) ages.length 0 [] K (by omega) (Nat.le_refl _) (by rw [hn]; omega)
      simp only [Option.bind_some, if_true, Bool.not_true, channel_Narrowest.j0, Bool.false_eq_true, if_false, spans_f e1 e2 K (by omega), and_self]
      rw [show ((0 : Nat) : Int) = 0 from rfl] at this
      rw [this]
      rfl
theorem spansN_get (sp : List Int) (st : List ST) : ∀ (l : List Int) (j i : Nat), i < l.length → (spansN sp st j l).getD i zS = ⟨leastN sp st ((j + i : Nat) : Int) (l.getD i 0), mostN sp st ((j + i : Nat) : Int) (l.getD i 0)⟩
  | a :: l, j, 0, h => by simp [spansN]
  | a :: l, j, i + 1, h => by
    have := spansN_get sp st l (j + 1) i (by simpa using h)
    rw [show j + 1 + i = j + (i + 1) by omega] at this
    simp only [spansN, List.getD_cons_succ, this]
theorem span_at {ages : List Int} {i : Nat} (h : i < ages.length) : (spansN sp st 0 ages).getD i zS = ⟨leastN sp st (i : Int) (ages.getD i 0), mostN sp st (i : Int) (ages.getD i 0)⟩ := by
  have := spansN_get sp st ages 0 i h
  rwa [Nat.zero_add] at this
end Go.Proofs.YtdmdahafiiggiaaGreatDoor.K
end
section
namespace Go.Proofs.YtdmdahafiiggiaaGreatDoor.K
open Go.RowKit Go.Proofs.YtdmdahafiiggiaaGreatDoorW.PrintWords Go.Proofs.YtdmdahafiiggiaaGreatDoorW.PrintLast Go.Proofs.YtdmdahafiiggiaaGreatDoorW.PrintMore
set_option linter.unusedVariables false
set_option linter.unusedSimpArgs false
variable {sp : List Int} {st : List ST} {ages rates : List Int}
theorem nrR_f (hs : st.length ≤ 1000000) (n : Int) : quinariaref02_Number.f sp st n = some (numB st n) := by
  unfold quinariaref02_Number.f numB
  rw [IntWalk.wrap64_in _ (by omega), inR_f, Option.bind_some]
structure Rated (sp : List Int) (st : List ST) (ages rates : List Int) : Prop where
  h : isLineB sp st = true
  g : areAgesB st.length ages = true
  len : rates.length = st.length
  at_ : ∀ i : Nat, i < st.length → (rd_T32 st (i : Int)).f3.f0 ≤ rates.getD i 0 ∧ rates.getD i 0 ≤ (rd_T32 st (i : Int)).f3.f1
def curN (sp : List Int) (st : List ST) (ages rates : List Int) (i : Nat) : Int := cupsN sp st (i : Int) (ages.getD i 0) (rates.getD i 0)
def lowN (sp : List Int) (st : List ST) (ages : List Int) (i : Nat) : Int := leastN sp st (i : Int) (ages.getD i 0)
def highN (sp : List Int) (st : List ST) (ages : List Int) (i : Nat) : Int := mostN sp st (i : Int) (ages.getD i 0)
theorem Rated.age (R : Rated sp st ages rates) {i : Nat} (hi : i < st.length) : inB (ages.getD i 0) 0 200 = true := by
  obtain ⟨hl, hall⟩ := ages_all R.g
  exact hall _ (getD_mem 0 (by omega))
theorem Rated.between (R : Rated sp st ages rates) {i : Nat} (hi : i < st.length) : 0 ≤ lowN sp st ages i ∧ lowN sp st ages i ≤ curN sp st ages rates i ∧ curN sp st ages rates i ≤ highN sp st ages i ∧ highN sp st ages i ≤ 10000000 := by
  have hn := numB_of hi
  have hn' := num_range hn
  obtain ⟨-, -, -, -, -, -, l0, lh, lh1, -, -⟩ := line_at R.h hn'.1 hn'.2
  have ha := age_range (R.age hi)
  obtain ⟨r0, r1⟩ := R.at_ i hi
  exact ⟨(cupsN_range R.h hn ha.1 (by omega)).1, cupsN_anti R.h hn ha.1 (Int.le_refl _) (by omega) r1, cupsN_anti R.h hn ha.1 (Int.le_refl _) l0 r0, (cupsN_range R.h hn ha.1 l0).2⟩
theorem Rated.cups (R : Rated sp st ages rates) {i : Nat} (hi : i < st.length) : quinariaref02_Cups.f sp st (i : Int) (rd ages (i : Int)) (rd rates (i : Int)) = some (curN sp st ages rates i) := by
  have hn := numB_of hi
  have hn' := num_range hn
  obtain ⟨-, -, -, -, -, -, l0, lh, lh1, -, -⟩ := line_at R.h hn'.1 hn'.2
  obtain ⟨r0, r1⟩ := R.at_ i hi
  rw [rd_at, rd_at, cupsR_f R.h hn (R.age hi) (by omega) (by omega)]
  rfl
theorem Rated.low (R : Rated sp st ages rates) {i : Nat} (hi : i < st.length) : quinariaref02_Cups.f sp st (i : Int) (rd ages (i : Int)) ((rd_T32 st (i : Int)).f3.f1) = some (lowN sp st ages i) := by
  have hn := numB_of hi
  have hn' := num_range hn
  obtain ⟨-, -, -, -, -, -, l0, lh, lh1, -, -⟩ := line_at R.h hn'.1 hn'.2
  rw [rd_at, cupsR_f R.h hn (R.age hi) (by omega) (by omega)]
  rfl
theorem Rated.high (R : Rated sp st ages rates) {i : Nat} (hi : i < st.length) : quinariaref02_Cups.f sp st (i : Int) (rd ages (i : Int)) ((rd_T32 st (i : Int)).f3.f0) = some (highN sp st ages i) := by
  have hn := numB_of hi
  have hn' := num_range hn
  obtain ⟨-, -, -, -, -, -, l0, lh, lh1, -, -⟩ := line_at R.h hn'.1 hn'.2
  rw [rd_at, cupsR_f R.h hn (R.age hi) l0 (by omega)]
  rfl
def curFrom (sp : List Int) (st : List ST) (ages rates : List Int) : Nat → Nat → Int → Int
  | 0, _, x => x
  | d + 1, j, x => curFrom sp st ages rates d (j + 1) (mn x (curN sp st ages rates j))
theorem curFrom_le : ∀ (d j : Nat) (x : Int), curFrom sp st ages rates d j x ≤ x ∧ ∀ i, j ≤ i → i < j + d → curFrom sp st ages rates d j x ≤ curN sp st ages rates i
  | 0, j, x => ⟨Int.le_refl _, fun i h1 h2 => by omega⟩
  | d + 1, j, x => by
    obtain ⟨h1, h2⟩ := curFrom_le d (j + 1) (mn x (curN sp st ages rates j))
    have e : mn x (curN sp st ages rates j) ≤ x ∧ mn x (curN sp st ages rates j) ≤ curN sp st ages rates j := by unfold mn; split <;> omega
    unfold curFrom
    refine ⟨by omega, fun i hi hj => ?_⟩
    by_cases e1 : i = j
    · subst e1; omega
    · exact h2 i (by omega) (by omega)
theorem curFrom_is : ∀ (d j : Nat) (x : Int), curFrom sp st ages rates d j x = x ∨ ∃ i, j ≤ i ∧ i < j + d ∧ curFrom sp st ages rates d j x = curN sp st ages rates i
  | 0, j, x => .inl rfl
  | d + 1, j, x => by
    unfold curFrom
    rcases curFrom_is d (j + 1) (mn x (curN sp st ages rates j)) with h | ⟨i, h1, h2, h3⟩
    · rw [h]
      by_cases e : curN sp st ages rates j < x
      · right; exact ⟨j, Nat.le_refl _, by omega, by unfold mn; rw [if_pos e]⟩
      · left; unfold mn; rw [if_neg e]
    · right; exact ⟨i, by omega, by omega, h3⟩
theorem foldl_le : ∀ (l : List Int) (x : Int), l.foldl mn x ≤ x ∧ ∀ y ∈ l, l.foldl mn x ≤ y
  | [], x => ⟨Int.le_refl _, fun y h => by cases h⟩
  | a :: l, x => by
    obtain ⟨h1, h2⟩ := foldl_le l (mn x a)
    have e : mn x a ≤ x ∧ mn x a ≤ a := by unfold mn; split <;> omega
    rw [List.foldl_cons]
    refine ⟨by omega, fun y hy => ?_⟩
    rcases List.mem_cons.mp hy with rfl | hy
    · omega
    · exact h2 y hy
theorem foldl_is : ∀ (l : List Int) (x : Int), l.foldl mn x = x ∨ l.foldl mn x ∈ l
  | [], x => .inl rfl
  | a :: l, x => by
    rw [List.foldl_cons]
    rcases foldl_is l (mn x a) with h | h
    · rw [h]
      unfold mn; split
      · right; exact List.mem_cons_self ..
      · left; rfl
    · right; exact List.mem_cons_of_mem _ h
theorem span_mem_iff (hl : ages.length = st.length) {s : SPN} : s ∈ spansN sp st 0 ages ↔ ∃ i : Nat, i < st.length ∧ s = ⟨lowN sp st ages i, highN sp st ages i⟩ := by
  constructor
  · intro h
    obtain ⟨i, hi, rfl⟩ := List.mem_iff_getElem.mp h
    rw [spansN_len] at hi
    refine ⟨i, by omega, ?_⟩
    have := span_at (sp := sp) (st := st) hi
    rw [List.getD, List.getElem?_eq_getElem (by rw [spansN_len]; exact hi)] at this
    exact this
  · rintro ⟨i, hi, rfl⟩
    have := getD_mem (l := spansN sp st 0 ages) (j := i) zS (by rw [spansN_len]; omega)
    rw [span_at (by omega)] at this
    exact this
theorem Rated.bounds (R : Rated sp st ages rates) : minF (spansN sp st 0 ages) ≤ curFrom sp st ages rates st.length 0 10000001 ∧ curFrom sp st ages rates st.length 0 10000001 ≤ minG (spansN sp st 0 ages) ∧ ∃ i, i < st.length ∧ curFrom sp st ages rates st.length 0 10000001 = curN sp st ages rates i := by
  have hl := (ages_all R.g).1
  have hlen := line_lens R.h
  obtain ⟨c1, c2⟩ := curFrom_le (sp := sp) (st := st) (ages := ages) (rates := rates) st.length 0 10000001
  have hi : ∃ i, i < st.length ∧ curFrom sp st ages rates st.length 0 10000001 = curN sp st ages rates i := by
    rcases curFrom_is (sp := sp) (st := st) (ages := ages) (rates := rates) st.length 0 10000001 with h | ⟨i, -, h2, h3⟩
    · have := c2 0 (by omega) (by omega)
      have := R.between (show 0 < st.length by omega)
      omega
    · exact ⟨i, by omega, h3⟩
  refine ⟨?_, ?_, hi⟩
  · obtain ⟨i, hi, e⟩ := hi
    have h1 := (foldl_le ((spansN sp st 0 ages).map (·.f0)) 10000001).2 (lowN sp st ages i) (List.mem_map.mpr ⟨_, (span_mem_iff hl).mpr ⟨i, hi, rfl⟩, rfl⟩)
    have := R.between hi
    unfold minF
    omega
  · unfold minG
    rcases foldl_is ((spansN sp st 0 ages).map (·.f1)) 10000001 with h | h
    · rw [h]; exact c1
    · obtain ⟨s, hs, e⟩ := List.mem_map.mp h
      obtain ⟨i, hi, rfl⟩ := (span_mem_iff hl).mp hs
      have := R.between hi
      have := c2 i (by omega) (by omega)
      rw [← e]
      show _ ≤ highN sp st ages i
      omega
theorem okFrom_iff (S : List SPN) (i : Nat) : ∀ (m k : Nat), okFrom S i m k = true ↔ ∀ x, k ≤ x → x < k + m → x = i ∨ (S.getD i zS).f0 ≤ (S.getD x zS).f1
  | 0, k => by simp [okFrom]; intro x h1 h2; omega
  | m + 1, k => by
    unfold okFrom
    rw [Bool.and_eq_true, okFrom_iff S i m (k + 1), Bool.or_eq_true, beq_iff_eq, decide_eq_true_eq]
    constructor
    · rintro ⟨h1, h2⟩ x hx hx2
      by_cases e : x = k
      · subst e; exact h1
      · exact h2 x (by omega) (by omega)
    · intro h
      exact ⟨h k (by omega) (by omega), fun x h1 h2 => h x (by omega) (by omega)⟩
theorem narFrom_mem (S : List SPN) : ∀ (d i : Nat) (x : Int), x ∈ narFrom S d i ↔ ∃ j : Nat, x = (j : Int) ∧ i ≤ j ∧ j < i + d ∧ okFrom S j S.length 0 = true
  | 0, i, x => by simp [narFrom]; intro j _ h1 h2; omega
  | d + 1, i, x => by
    unfold narFrom
    have ih := narFrom_mem S d (i + 1) x
    by_cases e : okFrom S i S.length 0 = true
    · rw [if_pos e, List.mem_cons, ih]
      constructor
      · rintro (rfl | ⟨j, h1, h2, h3, h4⟩)
        · exact ⟨i, rfl, Nat.le_refl _, by omega, e⟩
        · exact ⟨j, h1, by omega, by omega, h4⟩
      · rintro ⟨j, h1, h2, h3, h4⟩
        by_cases e1 : j = i
        · left; rw [h1, e1]
        · right; exact ⟨j, h1, by omega, by omega, h4⟩
    · rw [if_neg e, ih]
      constructor
      · rintro ⟨j, h1, h2, h3, h4⟩
        exact ⟨j, h1, by omega, by omega, h4⟩
      · rintro ⟨j, h1, h2, h3, h4⟩
        by_cases e1 : j = i
        · subst e1; exact absurd h4 e
        · exact ⟨j, h1, by omega, by omega, h4⟩
theorem narFrom_sorted (S : List SPN) : ∀ (d i : Nat), (narFrom S d i).Pairwise (· < ·)
  | 0, i => List.Pairwise.nil
  | d + 1, i => by
    unfold narFrom
    have ih := narFrom_sorted S d (i + 1)
    split
    · refine List.Pairwise.cons (fun x hx => ?_) ih
      obtain ⟨j, rfl, h1, -, -⟩ := (narFrom_mem S d (i + 1) x).mp hx
      omega
    · exact ih
theorem nar_mem (hl : ages.length = st.length) {x : Int} : x ∈ narN sp st ages ↔ ∃ i : Nat, x = (i : Int) ∧ i < st.length ∧ ∀ k, k < st.length → k = i ∨ lowN sp st ages i ≤ highN sp st ages k := by
  unfold narN
  rw [narFrom_mem]
  constructor
  · rintro ⟨j, h1, h2, h3, h4⟩
    refine ⟨j, h1, by omega, fun k hk => ?_⟩
    have := (okFrom_iff _ _ _ _).mp h4 k (by omega) (by rw [spansN_len]; omega)
    rwa [span_at (by omega), span_at (by omega)] at this
  · rintro ⟨i, h1, h2, h3⟩
    refine ⟨i, h1, by omega, by omega, (okFrom_iff _ _ _ _).mpr fun k _ hk => ?_⟩
    rw [spansN_len] at hk
    rw [span_at (by omega), span_at (by omega)]
    exact h3 k (by omega)
theorem narrow_l3 (R : Rated sp st ages rates) (least : Int) (hle : ∀ i, i < st.length → least ≤ curN sp st ages rates i) (met : List Bool) (hm : met.length = st.length) (hin : ∀ i : Nat, i < st.length → (i : Int) ∈ narN sp st ages → met.getD i false = true) :
    ∀ (d j K : Nat), j + d = st.length → d < K → quinarialaw02_ChannelNarrow.l3 K ages rates least met (j : Int) sp st = some true
  | 0, j, K + 1, hj, hK => by
    have := R.len
    rw [quinarialaw02_ChannelNarrow.l3, if_neg (by omega)]
    rfl
  | d + 1, j, K + 1, hj, hK => by
    have hr := R.len
    have hl := (ages_all R.g).1
    have hlen := line_lens R.h
    have ih := narrow_l3 R least hle met hm hin d (j + 1) K (by omega) (by omega)
    rw [show ((j + 1 : Nat) : Int) = (j : Int) + 1 by omega] at ih
    rw [quinarialaw02_ChannelNarrow.l3, if_pos (by omega), if_pos (by omega), if_pos (by omega), R.cups (by omega), Option.bind_some, w1 (by omega) (by omega)]
    by_cases e : curN sp st ages rates j = least
    · have : (j : Int) ∈ narN sp st ages := (nar_mem hl).mpr ⟨j, rfl, by omega, fun k hk => .inr (by
        have h1 := R.between (show j < st.length by omega)
        have h2 := R.between hk
        have h3 := hle k hk
        omega)⟩
      have hm' := hin j (by omega) this
      rw [if_pos e, if_pos (by omega), if_pos (by simp only [rdOf, Int.toNat_natCast]; exact hm')]
      exact ih
    · rw [if_neg e]
      exact ih
theorem narrow_l2 (R : Rated sp st ages rates) (A : List Int) (least : Int) (met : List Bool) (j a : Nat) (ha : a < st.length) (hj : j < A.length) (hja : rd A (j : Int) = (a : Int)) (hok : ∀ k, k < st.length → k = a ∨ lowN sp st ages a ≤ highN sp st ages k) (B : Nat) (hc : ∀ K, B ≤ K → quinarialaw02_ChannelNarrow.l1 K ages rates A least met ((j : Int) + 1) sp st = some true) (hA : A.length ≤ 1000) :
    ∀ (m k K : Nat), k + m = st.length → B + m < K → quinarialaw02_ChannelNarrow.l2 K ages rates A least met (j : Int) (lowN sp st ages a) (k : Int) sp st = some true
  | 0, k, K + 1, hk, hK => by
    rw [quinarialaw02_ChannelNarrow.l2, if_neg (by omega), w1 (by omega) (by omega)]
    exact hc K (by omega)
  | m + 1, k, K + 1, hk, hK => by
    have hl := (ages_all R.g).1
    have hlen := line_lens R.h
    have ih := narrow_l2 R A least met j a ha hj hja hok B hc hA m (k + 1) K (by omega) (by omega)
    rw [show ((k + 1 : Nat) : Int) = (k : Int) + 1 by omega] at ih
    rw [quinarialaw02_ChannelNarrow.l2, if_pos (by omega), if_pos (by omega), if_pos (by omega), hja, w1 (by omega) (by omega)]
    by_cases e : k = a
    · rw [if_pos (by omega)]
      exact ih
    · rw [if_neg (by omega), if_pos (by omega), if_pos (by omega), R.high (by omega), Option.bind_some]
      rcases hok k (by omega) with h | h
      · exact absurd h e
      · rw [if_neg (by omega)]
        exact ih
theorem narrow_l1 (R : Rated sp st ages rates) (least : Int) (hle : ∀ i, i < st.length → least ≤ curN sp st ages rates i) : ∀ (rest : List Int) (j : Nat) (met : List Bool) (K : Nat), (narN sp st ages).drop j = rest → met.length = st.length → (∀ i : Nat, i < st.length → (i : Int) ∈ (narN sp st ages).take j → met.getD i false = true) → rest.length * (st.length + 4) + st.length + 2 < K →
    quinarialaw02_ChannelNarrow.l1 K ages rates (narN sp st ages) least met (j : Int) sp st = some true
  | [], j, met, K + 1, hd, hm, hin, hK => by
    have hle' : (narN sp st ages).length ≤ j := by simpa using hd
    rw [quinarialaw02_ChannelNarrow.l1, if_neg (by omega)]
    have := narrow_l3 R least hle met hm (fun i hi hmem => hin i hi (by rwa [List.take_of_length_le hle'])) st.length 0 K (by omega) (by simp at hK; omega)
    exact this
  | a :: rest, j, met, K + 1, hd, hm, hin, hK => by
    obtain ⟨hj, hd1, hget⟩ := drop_get hd
    have hl := (ages_all R.g).1
    have hlen := line_lens R.h
    have hA : (narN sp st ages).length ≤ ages.length := narFrom_len ..
    have hmem : a ∈ narN sp st ages := by rw [← hget 0]; exact getD_mem 0 hj
    obtain ⟨i, rfl, hi, hok⟩ := (nar_mem hl).mp hmem
    have hrd : rd (narN sp st ages) (j : Int) = (i : Int) := rd_drop hd
    obtain ⟨K, rfl⟩ : ∃ k, K = k + 1 := ⟨K - 1, by simp [Nat.add_mul] at hK; omega⟩
    have hmul : (rest.length + 1) * (st.length + 4) = rest.length * (st.length + 4) + (st.length + 4) := by rw [Nat.add_mul]; omega
    rw [List.length_cons] at hK
    have ih := fun K hK' => narrow_l1 R least hle rest (j + 1) (met.set i true) K hd1 (by simpa using hm) (fun x hx hmem => by
      rw [List.take_add_one, List.mem_append] at hmem
      by_cases e : x = i
      · subst e
        simp [List.getD, List.getElem?_set, hm, hx]
      · have : (x : Int) ∈ (narN sp st ages).take j := by
          rcases hmem with h | h
          · exact h
          · have e2 : (narN sp st ages)[j]? = some (i : Int) := by
              have := hget 0
              rw [List.getD, List.getElem?_eq_getElem hj] at this
              rw [List.getElem?_eq_getElem hj]
              exact congrArg some this
            rw [e2] at h
            simp at h
            omega
        have := hin x hx this
        simpa [List.getD, List.getElem?_set, Ne.symm e] using this) hK'
    rw [show ((j + 1 : Nat) : Int) = (j : Int) + 1 by omega] at ih
    have hj5 : quinarialaw02_ChannelNarrow.j5 (K + 1) ages rates (narN sp st ages) least met (j : Int) false sp st = some true := by
      rw [quinarialaw02_ChannelNarrow.j5, if_neg (by simp), if_pos (by omega), if_pos (by omega), hrd, if_pos (by omega), if_pos (by omega), if_pos (by omega), if_pos (by omega), R.low hi, Option.bind_some, Int.toNat_natCast]
      have := narrow_l2 R (narN sp st ages) least (met.set i true) j i hi hj hrd hok (rest.length * (st.length + 4) + st.length + 3) (fun K hK' => ih K (by omega)) (by omega) st.length 0 K (by omega) (by omega)
      exact this
    rw [quinarialaw02_ChannelNarrow.l1, if_pos (by omega), if_pos (by omega), hrd, nrR_f (by omega), Option.bind_some, numB_of hi, if_pos rfl]
    by_cases e : (j : Int) > 0
    · obtain ⟨j', rfl⟩ : ∃ k, j = k + 1 := ⟨j - 1, by omega⟩
      have hw : wrap64 (((j' + 1 : Nat) : Int) - 1) = (j' : Int) := by rw [IntWalk.wrap64_in _ (by omega)]; omega
      rw [if_pos e, hw, if_pos (by omega), if_pos (by omega)]
      have hs : (narN sp st ages)[j']'(by omega) < (narN sp st ages)[j' + 1]'hj := List.pairwise_iff_getElem.mp (show (narN sp st ages).Pairwise (· < ·) from narFrom_sorted _ _ _) j' (j' + 1) (by omega) hj (by omega)
      have e1 : (narN sp st ages)[j' + 1]'hj = (i : Int) := by
        have := hget 0
        rwa [List.getD, List.getElem?_eq_getElem hj] at this
      have e2 : rd (narN sp st ages) (j' : Int) = (narN sp st ages)[j']'(by omega) := by rw [rd_at, List.getD, List.getElem?_eq_getElem (show j' < (narN sp st ages).length by omega)]; rfl
      rw [decide_eq_false (by omega)]
      exact hj5
    · rw [if_neg e]
      exact hj5
theorem narrow_l0 (R : Rated sp st ages rates) (A : List Int) (lo hi : Int) : ∀ (d j : Nat) (x : Int) (K : Nat), j + d = st.length → d + 2 < K → (∀ K', K ≤ K' + d + 1 → quinarialaw02_ChannelNarrow.j3 K' ages rates A (curFrom sp st ages rates d j x) false sp st = some true) → lo ≤ curFrom sp st ages rates d j x → curFrom sp st ages rates d j x ≤ hi →
    quinarialaw02_ChannelNarrow.l0 K ages rates A x (j : Int) sp st lo hi = some true
  | 0, j, x, K + 1, hj, hK, hc, h1, h2 => by
    have := R.len
    rw [quinarialaw02_ChannelNarrow.l0, if_neg (by omega)]
    unfold curFrom at h1 h2 hc
    rw [if_neg (by omega), decide_eq_false (by omega)]
    exact hc K (by omega)
  | d + 1, j, x, K + 1, hj, hK, hc, h1, h2 => by
    have hr := R.len
    have hl := (ages_all R.g).1
    have hlen := line_lens R.h
    have ih := narrow_l0 R A lo hi d (j + 1) (mn x (curN sp st ages rates j)) K (by omega) (by omega) (fun K' hK' => hc K' (by omega)) h1 h2
    rw [show ((j + 1 : Nat) : Int) = (j : Int) + 1 by omega] at ih
    rw [quinarialaw02_ChannelNarrow.l0, if_pos (by omega), if_pos (by omega), if_pos (by omega), R.cups (by omega), Option.bind_some, w1 (by omega) (by omega)]
    exact ih
theorem rated_from (hr : rates.length ≤ 1000) (hl : rates.length = st.length) : ∀ (d j K : Nat), j + d = rates.length → d < K → ∃ b, quinarialaw02_rated.l0 K rates (j : Int) sp st = some b ∧ (b = true → ∀ i : Nat, j ≤ i → i < st.length → (rd_T32 st (i : Int)).f3.f0 ≤ rates.getD i 0 ∧ rates.getD i 0 ≤ (rd_T32 st (i : Int)).f3.f1)
  | 0, j, K + 1, hj, hK => by
    unfold quinarialaw02_rated.l0
    rw [if_neg (by omega)]
    exact ⟨true, rfl, fun _ i h1 h2 => by omega⟩
  | d + 1, j, K + 1, hj, hK => by
    unfold quinarialaw02_rated.l0
    rw [if_pos (by omega), if_pos (by omega), if_pos (by omega), rd_at, w1 (by omega) (by omega)]
    obtain ⟨b, hb, ih⟩ := rated_from hr hl d (j + 1) K (by omega) (by omega)
    rw [show ((j + 1 : Nat) : Int) = (j : Int) + 1 by omega] at hb
    by_cases e1 : rates.getD j 0 < (rd_T32 st (j : Int)).f3.f0
    · rw [if_pos e1]; exact ⟨false, rfl, fun h => by cases h⟩
    · rw [if_neg e1]
      by_cases e2 : rates.getD j 0 > (rd_T32 st (j : Int)).f3.f1
      · rw [if_pos e2]; exact ⟨false, rfl, fun h => by cases h⟩
      · rw [if_neg e2]
        refine ⟨b, hb, fun h i h1 h2 => ?_⟩
        by_cases e : i = j
        · subst e; omega
        · exact ih h i (by omega) h2
theorem rated_f (hs : st.length ≤ 1000) (K : Nat) (hK : st.length < K) : ∃ b, quinarialaw02_rated.f K sp st rates = some b ∧ (b = true → rates.length = st.length ∧ ∀ i : Nat, i < st.length → (rd_T32 st (i : Int)).f3.f0 ≤ rates.getD i 0 ∧ rates.getD i 0 ≤ (rd_T32 st (i : Int)).f3.f1) := by
  unfold quinarialaw02_rated.f
  by_cases e : rates.length = st.length
  · rw [if_pos (by omega)]
    obtain ⟨b, hb, h⟩ := rated_from (sp := sp) (st := st) (rates := rates) (by omega) e rates.length 0 K (by omega) (by omega)
    exact ⟨b, hb, fun hh => ⟨e, fun i hi => h hh i (by omega) hi⟩⟩
  · rw [if_neg (by omega)]
    exact ⟨false, rfl, fun h => by cases h⟩
theorem narrow_go (R : Rated sp st ages rates) : quinarialaw02_ChannelNarrow.j0 (500 + 1 + 1) ages rates false sp st = some true := by
  have hl := (ages_all R.g).1
  have hr := R.len
  have hlen := line_lens R.h
  obtain ⟨b1, b2, -⟩ := R.bounds
  have hle := (curFrom_le (sp := sp) (st := st) (ages := ages) (rates := rates) st.length 0 10000001).2
  have hA : (narN sp st ages).length ≤ ages.length := narFrom_len ..
  rw [quinarialaw02_ChannelNarrow.j0, if_neg (by simp), line_f (by omega) (by omega) (by omega) _ (by omega), Option.bind_some, nar_f (by omega) (by omega) (by omega) _ (by omega), Option.bind_some]
  have e1 : lineF sp st ages = (minF (spansN sp st 0 ages), minG (spansN sp st 0 ages), 0) := if_pos ⟨R.h, R.g⟩
  have e2 : narF sp st ages = (narN sp st ages, 0) := if_pos ⟨R.h, R.g⟩
  rw [e1, e2]
  simp only [if_true]
  rw [decide_eq_false (by omega), quinarialaw02_ChannelNarrow.j1, if_neg (by simp)]
  refine narrow_l0 R (narN sp st ages) _ _ st.length 0 10000001 500 (by omega) (by omega) (fun K' hK' => ?_) b1 b2
  obtain ⟨K, rfl⟩ : ∃ k, K' = k + 1 := ⟨K' - 1, by omega⟩
  rw [quinarialaw02_ChannelNarrow.j3, if_neg (by simp), if_pos (by omega), if_pos (by omega), Int.toNat_natCast]
  have hmul : (narN sp st ages).length * (st.length + 4) ≤ 8 * (8 + 4) := Nat.mul_le_mul (by omega) (by omega)
  exact narrow_l1 R _ (fun i hi => hle i (by omega) (by omega)) (narN sp st ages) 0 (List.replicate st.length false) K rfl (by simp) (fun i hi h => by simp at h) (by omega)
theorem ChannelNarrow_pure (sp : List Int) (st : List ST) (ages rates : List Int) : quinarialaw02_ChannelNarrow.f (500 + 1 + 1) sp st ages rates = some true := by
  have hk : quinarialaw02_ChannelNarrow.j0 (500 + 1 + 1) ages rates true sp st = some true := by
    rw [quinarialaw02_ChannelNarrow.j0, if_pos rfl]
    rfl
  unfold quinarialaw02_ChannelNarrow.f
  rw [short_f, Option.bind_some]
  cases hs : shortB sp st with
  | false => simpa using hk
  | true =>
    have hl := short_lens hs
    by_cases h10 : (ages.length : Int) > 10
    · simpa [h10] using hk
    · obtain ⟨b, hb, hbr⟩ := rated_f (sp := sp) (st := st) (rates := rates) (by omega) (500 + 1 + 1) (by omega)
      simp only [if_true, if_neg h10, right_f (sp := sp) (st := st) (by omega) (by omega) (500 + 1 + 1) (by omega), Option.bind_some]
      cases h1 : isLineB sp st with
      | false => simpa using hk
      | true =>
        simp only [if_true, ages_f (sp := sp) (st := st) ages (by omega) (by omega) (500 + 1 + 1) (by omega), Option.bind_some]
        cases h2 : areAgesB st.length ages with
        | false => simpa using hk
        | true =>
          simp only [if_true, hb, Option.bind_some]
          cases b with
          | false => simpa using hk
          | true =>
            obtain ⟨r1, r2⟩ := hbr rfl
            exact narrow_go ⟨h1, h2, r1, r2⟩
theorem ChannelNarrow_law (A0 A1 : Option Addr) (c0 c1 : Nat) (sp : List Int) (st : List ST) (A3 : Option Addr) (c3 : Nat) (ages : List Int) (A4 : Option Addr) (c4 : Nat) (rates : List Int) (w : World) (hT : TabW w) (h0 : At' (Kd.int .i64) w A0 sp.length c0 sp) (h1 : At' k32 w A1 st.length c1 st) (h3 : At' (Kd.int .i64) w A3 ages.length c3 ages) (h4 : At' (Kd.int .i64) w A4 rates.length c4 rates) :
    Calls Tryz.prog 5 #[.agg #[.slice A0 sp.length c0, .slice A1 st.length c1], .slice A3 ages.length c3, .slice A4 rates.length c4] w fun e w' => e = .returned (.bool true) ∧ Below w.heap.size w w' :=
  quinarialaw02_ChannelNarrow.calls _ A0 c0 sp A1 c1 st A3 c3 ages A4 c4 rates true w h0.c h0.le h1.c h1.le h3.c h3.le h4.c h4.le hT (ChannelNarrow_pure sp st ages rates)
end Go.Proofs.YtdmdahafiiggiaaGreatDoor.K
end
