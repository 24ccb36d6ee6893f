/- ChannelPlans: the walk of the law, and what it comes to. -/
import Derived.Test.YtdmdahafiiggiaaGreatDoorE5
set_option linter.unusedVariables false
set_option linter.unusedSimpArgs false
section
namespace Go.Proofs.YtdmdahafiiggiaaGreatDoor.K
open Go.RowKit Go.Proofs.YtdmdahafiiggiaaGreatDoorW.PrintWords Go.Proofs.YtdmdahafiiggiaaGreatDoorW.PrintLast Go.Proofs.YtdmdahafiiggiaaGreatDoorW.PrintMore
def quinarialaw02_known.f (_ : Nat) : Option Bool := some true
theorem quinarialaw02_known.calls (k : Nat) (r : Bool) (w : World) (hT : TabW w) (h : quinarialaw02_known.f k  = some r) :
    Calls Tryz.prog 17 #[] w fun e w' => e = .returned (.bool r) ∧ Below w.heap.size w w' := by
  obtain rfl : true = r := Option.some.inj h
  exact known_any w hT
end Go.Proofs.YtdmdahafiiggiaaGreatDoor.K
end
section
namespace Go.Proofs.YtdmdahafiiggiaaGreatDoor.K
open Go.RowKit Go.Proofs.YtdmdahafiiggiaaGreatDoorW.PrintWords Go.Proofs.YtdmdahafiiggiaaGreatDoorW.PrintLast Go.Proofs.YtdmdahafiiggiaaGreatDoorW.PrintMore
attribute [local go_sem] max2_int min2_int max_two min_two max_three min_three max_four min_four
set_option linter.unusedVariables false
set_option linter.unusedSimpArgs false
def quinariaref02_Ages.l0 : Nat → List Int → Int → List Int → List (S32) → Option (Bool)
 | 0, _, _, _, _ => none
 | k + 1, x1, x5, x622000, x622001 => if x5 < (x1.length : Int) then (if 0 ≤ x5 then ((quinariaref02_Age.f (rd x1 x5)).bind fun t623 => (if t623 = true then (quinariaref02_Ages.l0 k x1 (wrap64 (x5 + 1)) x622000 x622001) else (some false))) else (none)) else (some ((x1.length : Int) == (x622001.length : Int)))
def quinariaref02_Ages.f (k : Nat) (l0_0 : List Int) (l0_1 : List (S32)) (l1 : List Int) : Option (Bool) := quinariaref02_Ages.l0 k l1 0 l0_0 l0_1
set_option maxHeartbeats 8000000 in
set_option maxRecDepth 100000 in
theorem quinariaref02_Ages.calls (k : Nat) (A0_0 : Option Addr) (c0_0 : Nat) (l0_0 : List Int) (A0_1 : Option Addr) (c0_1 : Nat) (l0_1 : List (S32)) (A1 : Option Addr) (c1 : Nat) (l1 : List Int) (r : Bool) (w : World) (hr0_0 : Kd.C (Kd.int .i64) w A0_0 l0_0.length l0_0) (hc0_0 : l0_0.length ≤ c0_0) (hr0_1 : Kd.C k32 w A0_1 l0_1.length l0_1) (hc0_1 : l0_1.length ≤ c0_1) (hr1 : Kd.C (Kd.int .i64) w A1 l1.length l1) (hc1 : l1.length ≤ c1) (h : quinariaref02_Ages.f k l0_0 l0_1 l1 = some r) :
  Calls Tryz.prog 22 #[.agg #[.slice A0_0 l0_0.length c0_0, .slice A0_1 l0_1.length c0_1], .slice A1 l1.length c1] w fun e w' => e = .returned (.bool r) ∧ Below w.heap.size w w' := by
 have hu25 := Tryz.underlying25
 have HR0_0 := Aside0.mk hr0_0
 have HC0_0 := Aside0.mk hc0_0
 clear hr0_0 hc0_0
 have HR0_1 := Aside0.mk hr0_1
 have HC0_1 := Aside0.mk hc0_1
 clear hr0_1 hc0_1
 have HR1 := Aside0.mk hr1
 have HC1 := Aside0.mk hc1
 clear hr1 hc1
 have HB := Aside0.mk (Below.refl w.heap.size w)
 have H : (quinariaref02_Ages.l0 k l1 0 l0_0 l0_1) = some r := h
 clear h
 have H' := Aside0.mk H
 clear H
 go_enter Tryz.func22, Tryz.ntmps22
 go_wp2_with (first | ((with_reducible refine gate_dst (N := 2) rfl ?_); refine bxe 2 #[.slice A0_0 l0_0.length c0_0, .slice A0_1 l0_1.length c0_1] 25 ?_; intro gb621 hg w3 hbox hb; have n0_ := Aside0.mk (below_step uB hb); have n1_ := Aside0.mk (hbox); have n2_ := gw hg; have n3_ := gw hg; clear HB; have HB := n0_; have BK621 := n1_; have GW621 := n2_; have GE621 := n3_; clear n0_ n1_ n2_ n3_; clear hb hbox hg))
 go_loopg [5] k (fun kq v5 w' => ∃ (x5_1 : Int), v5 = .int .i64 x5_1 ∧ Aside0 (quinariaref02_Ages.l0 kq l1 x5_1 l0_0 l0_1 = some r) ∧ Aside0 (kq ≤ k) ∧ Aside0 (w'.heap[gb621]? = some (.cells #[(.slice A0_0 l0_0.length c0_0), (.slice A0_1 l0_1.length c0_1)] 25 (0, 0))) ∧ Aside0 (Below w.heap.size w w'))
 case atStart => exact ⟨(0), u0, H', ⟨Nat.le_refl _⟩, ⟨uK BK621.out⟩, ⟨uB⟩⟩
 case round =>
  clear H'
  try clear c1; try clear c2; try clear p2
  obtain ⟨x5_1, rfl, HA, HK1, BK621, HB⟩ := hrel
  cases gk with
  | zero => exact absurd HA.out (by simp [quinariaref02_Ages.l0])
  | succ k1 =>
   have H := HA.out
   clear HA
   simp only [quinariaref02_Ages.l0] at H
   by_cases c4 : x5_1 < (l1.length : Int)
   ·rw [if_pos c4] at H
    replace c4 := decide_eq_true c4
    obtain ⟨c5, H⟩ := ifs H
    replace c5 := decide_eq_true c5
    replace H := Option.bind_eq_some_iff.mp H
    obtain ⟨t623, A60, H⟩ := H
    replace H : (if t623 = true then (quinariaref02_Ages.l0 k1 l1 (wrap64 (x5_1 + 1)) l0_0 l0_1) else (some false)) = some r := H
    have A6 := Aside0.mk A60
    clear A60
    by_cases c7 : t623 = true
    ·subst c7
     have H1 : (quinariaref02_Ages.l0 k1 l1 (wrap64 (x5_1 + 1)) l0_0 l0_1) = some r := by rw [if_pos rfl] at H; exact H
     clear H
     have H := H1
     clear H1
     have H' := Aside0.mk H
     clear H
     have p622 : 0 ≤ (x5_1 : Int) := of_decide_eq_true (by first | (with_reducible assumption) | assumption)
     have q622 : x5_1 < (l1.length : Int) := of_decide_eq_true (by first | (with_reducible assumption) | assumption)
     obtain ⟨ad622, e622, hx622_0⟩ := Kd.at_int HR1.out x5_1 p622 q622
     cases e622
     replace hx622_0 := hcell HB.out hx622_0
     replace p622 := eq_true p622
     replace q622 := eq_true q622
     go_wp2_with (first | ((with_reducible refine gate_callee (f := 16) rfl ?_); refine goesL_ (some 16) rfl rfl Tryz.func16 (by kernel_rfl) rfl #[.int .i64 (rd l1 x5_1)] rfl uM ?_; (with_reducible refine (quinariaref02_Age.calls (rd l1 x5_1) true _ A6.out).mono ?_); rintro e w' ⟨rfl, ⟨nd, rfl⟩⟩; refine ⟨_, rfl, ?_⟩))
     go_roundg k1
     case measure => have := HK1.out; omega
     case rel => exact ⟨(wrap64 (x5_1 + 1)), u0, H', ⟨by have := HK1.out; omega⟩, ⟨uK BK621.out⟩, ⟨uB⟩⟩
    ·replace c7 := Bool.eq_false_iff.mpr c7
     subst c7
     have H1 : (some false) = some r := by rw [if_neg (show ¬ (false = true) by decide)] at H; exact H
     clear H
     have H := H1
     clear H1
     obtain rfl := Option.some.inj H
     have p622 : 0 ≤ (x5_1 : Int) := of_decide_eq_true (by first | (with_reducible assumption) | assumption)
     have q622 : x5_1 < (l1.length : Int) := of_decide_eq_true (by first | (with_reducible assumption) | assumption)
     obtain ⟨ad622, e622, hx622_0⟩ := Kd.at_int HR1.out x5_1 p622 q622
     cases e622
     replace hx622_0 := hcell HB.out hx622_0
     replace p622 := eq_true p622
     replace q622 := eq_true q622
     go_wp2_with (first | ((with_reducible refine gate_callee (f := 16) rfl ?_); refine goesL_ (some 16) rfl rfl Tryz.func16 (by kernel_rfl) rfl #[.int .i64 (rd l1 x5_1)] rfl uM ?_; (with_reducible refine (quinariaref02_Age.calls (rd l1 x5_1) false _ A6.out).mono ?_); rintro e w' ⟨rfl, ⟨nd, rfl⟩⟩; refine ⟨_, rfl, ?_⟩))
     go_ret
     exact ⟨uE, uB⟩
   ·rw [if_neg c4] at H
    replace c4 := decide_eq_false c4
    obtain rfl := Option.some.inj H
    obtain ⟨hcz8_0, hcz8_1⟩ := cz2 BK621.out
    obtain ⟨hfz8_0, hfz8_1⟩ := fz2 BK621.out
    go_wp2
    go_ret
    exact ⟨uE, uB⟩
end Go.Proofs.YtdmdahafiiggiaaGreatDoor.K
end
section
namespace Go.Proofs.YtdmdahafiiggiaaGreatDoor.K
open Go.RowKit Go.Proofs.YtdmdahafiiggiaaGreatDoorW.PrintWords Go.Proofs.YtdmdahafiiggiaaGreatDoorW.PrintLast Go.Proofs.YtdmdahafiiggiaaGreatDoorW.PrintMore
attribute [local go_sem] max2_int min2_int max_two min_two max_three min_three max_four min_four
set_option linter.unusedVariables false
set_option linter.unusedSimpArgs false
def quinariaref02_Need.f (a0 : Int) : Option (Bool) := (quinariaref02_in.f a0 1 10000000).bind fun t714 => (some t714)
set_option maxHeartbeats 8000000 in
set_option maxRecDepth 100000 in
theorem quinariaref02_Need.calls (a0 : Int) (r : Bool) (w : World) (h : quinariaref02_Need.f a0 = some r) :
  Calls Tryz.prog 29 #[.int .i64 a0] w fun e w' => e = .returned (.bool r) ∧ Drawn0 w w' := by
 have H : ((quinariaref02_in.f a0 1 10000000).bind fun t714 => (some t714)) = some r := h
 clear h
 replace H := Option.bind_eq_some_iff.mp H
 obtain ⟨t714, A20, H⟩ := H
 replace H : (some t714) = some r := H
 have A2 := Aside0.mk A20
 clear A20
 obtain rfl := Option.some.inj H
 go_enter Tryz.func29, Tryz.ntmps29
 go_wp2_with (first | ((with_reducible refine gate_callee (f := 42) rfl ?_); refine goesL_ (some 4) rfl rfl Tryz.func42 (by kernel_rfl) rfl #[.int .i64 a0, .int .i64 1, .int .i64 10000000] rfl uM ?_; (with_reducible refine (quinariaref02_in.calls a0 1 10000000 t714 _ A2.out).mono ?_); rintro e w' ⟨rfl, ⟨nd, rfl⟩⟩; refine ⟨_, rfl, ?_⟩))
 go_ret
 exact ⟨u0, by repeat (first | exact Drawn0.refl _ | apply Drawn0.step)⟩
end Go.Proofs.YtdmdahafiiggiaaGreatDoor.K
end
section
namespace Go.Proofs.YtdmdahafiiggiaaGreatDoor.K
open Go.RowKit Go.Proofs.YtdmdahafiiggiaaGreatDoorW.PrintWords Go.Proofs.YtdmdahafiiggiaaGreatDoorW.PrintLast Go.Proofs.YtdmdahafiiggiaaGreatDoorW.PrintMore
attribute [local go_sem] max2_int min2_int max_two min_two max_three min_three max_four min_four
set_option linter.unusedVariables false
set_option linter.unusedSimpArgs false
def quinariaref02_Until.f (a0 : Int) : Option (Bool) := (quinariaref02_in.f a0 0 40).bind fun t816 => (some t816)
set_option maxHeartbeats 8000000 in
set_option maxRecDepth 100000 in
theorem quinariaref02_Until.calls (a0 : Int) (r : Bool) (w : World) (h : quinariaref02_Until.f a0 = some r) :
  Calls Tryz.prog 33 #[.int .i64 a0] w fun e w' => e = .returned (.bool r) ∧ Drawn0 w w' := by
 have H : ((quinariaref02_in.f a0 0 40).bind fun t816 => (some t816)) = some r := h
 clear h
 replace H := Option.bind_eq_some_iff.mp H
 obtain ⟨t816, A20, H⟩ := H
 replace H : (some t816) = some r := H
 have A2 := Aside0.mk A20
 clear A20
 obtain rfl := Option.some.inj H
 go_enter Tryz.func33, Tryz.ntmps33
 go_wp2_with (first | ((with_reducible refine gate_callee (f := 42) rfl ?_); refine goesL_ (some 4) rfl rfl Tryz.func42 (by kernel_rfl) rfl #[.int .i64 a0, .int .i64 0, .int .i64 40] rfl uM ?_; (with_reducible refine (quinariaref02_in.calls a0 0 40 t816 _ A2.out).mono ?_); rintro e w' ⟨rfl, ⟨nd, rfl⟩⟩; refine ⟨_, rfl, ?_⟩))
 go_ret
 exact ⟨u0, by repeat (first | exact Drawn0.refl _ | apply Drawn0.step)⟩
end Go.Proofs.YtdmdahafiiggiaaGreatDoor.K
end
section
namespace Go.Proofs.YtdmdahafiiggiaaGreatDoor.K
open Go.RowKit Go.Proofs.YtdmdahafiiggiaaGreatDoorW.PrintWords Go.Proofs.YtdmdahafiiggiaaGreatDoorW.PrintLast Go.Proofs.YtdmdahafiiggiaaGreatDoorW.PrintMore
attribute [local go_sem] max2_int min2_int max_two min_two max_three min_three max_four min_four
set_option linter.unusedVariables false
set_option linter.unusedSimpArgs false
def quinariaref02_Carries.l0 : Nat → Int → Int → Int → List Int → List (S32) → Int → Int → Option (Int × Int)
 | 0, _, _, _, _, _, _, _ => none
 | k + 1, x1, x2, x8, x625000, x625001, x627000, x627001 => if 0 ≤ x1 then (if x1 < (x625001.length : Int) then (if x8 ≤ ((rd_T32 x625001 x1).f3.f1) then ((quinariaref02_Cups.f x625000 x625001 x1 x2 x8).bind fun t629 => (quinariaref02_Carries.l0 k x1 x2 (wrap64 (x8 + 1)) x625000 x625001 (mn x627000 t629) (mx x627001 t629))) else (some (x627000, x627001))) else (none)) else (none)
def quinariaref02_Carries.f (k : Nat) (l0_0 : List Int) (l0_1 : List (S32)) (a1 : Int) (a2 : Int) : Option (Int × Int) := if 0 ≤ a1 then (if a1 < (l0_1.length : Int) then (quinariaref02_Carries.l0 k a1 a2 ((rd_T32 l0_1 a1).f3.f0) l0_0 l0_1 10000001 (-1)) else (none)) else (none)
set_option maxHeartbeats 8000000 in
set_option maxRecDepth 100000 in
theorem quinariaref02_Carries.calls (k : Nat) (A0_0 : Option Addr) (c0_0 : Nat) (l0_0 : List Int) (A0_1 : Option Addr) (c0_1 : Nat) (l0_1 : List (S32)) (a1 : Int) (a2 : Int) (r1 : Int) (r2 : Int) (w : World) (hr0_0 : Kd.C (Kd.int .i64) w A0_0 l0_0.length l0_0) (hc0_0 : l0_0.length ≤ c0_0) (hr0_1 : Kd.C k32 w A0_1 l0_1.length l0_1) (hc0_1 : l0_1.length ≤ c0_1) (h : quinariaref02_Carries.f k l0_0 l0_1 a1 a2 = some (r1, r2)) :
  Calls Tryz.prog 62 #[.agg #[.slice A0_0 l0_0.length c0_0, .slice A0_1 l0_1.length c0_1], .int .i64 a1, .int .i64 a2] w fun e w' => e = .returned (.agg #[.int .i64 r1, .int .i64 r2]) ∧ Below w.heap.size w w' := by
 have hu25 := Tryz.underlying25
 have hu30 := Tryz.underlying30
 have HR0_0 := Aside0.mk hr0_0
 have HC0_0 := Aside0.mk hc0_0
 clear hr0_0 hc0_0
 have HR0_1 := Aside0.mk hr0_1
 have HC0_1 := Aside0.mk hc0_1
 clear hr0_1 hc0_1
 have HB := Aside0.mk (Below.refl w.heap.size w)
 have H : (if 0 ≤ a1 then (if a1 < (l0_1.length : Int) then (quinariaref02_Carries.l0 k a1 a2 ((rd_T32 l0_1 a1).f3.f0) l0_0 l0_1 10000001 (-1)) else (none)) else (none)) = some (r1, r2) := h
 clear h
 obtain ⟨c4, H⟩ := ifs H
 replace c4 := decide_eq_true c4
 obtain ⟨c5, H⟩ := ifs H
 replace c5 := decide_eq_true c5
 have H' := Aside0.mk H
 clear H
 go_enter Tryz.func62, Tryz.ntmps62
 go_wp2_with (first | ((with_reducible refine gate_dst (N := 3) rfl ?_); refine bxe 3 #[.slice A0_0 l0_0.length c0_0, .slice A0_1 l0_1.length c0_1] 25 ?_; intro gb624 hg w6 hbox hb; have n0_ := Aside0.mk (below_step uB hb); have n1_ := Aside0.mk (hbox); have n2_ := gw hg; have n3_ := gw hg; clear HB; have HB := n0_; have BK624 := n1_; have GW624 := n2_; have GE624 := n3_; clear n0_ n1_ n2_ n3_; clear hb hbox hg) | ((with_reducible refine gate_dst (N := 6) rfl ?_); refine bxe 6 #[.int .i64 0, .int .i64 0] 30 ?_; intro gb625 hg w7 hbox hb; have n0_ := Aside0.mk (blk_below (uK BK624.out) hb); have n1_ := Aside0.mk (below_step uB hb); have n2_ := Aside0.mk (hbox); have n3_ := gw hg; have n4_ := gw hg; have n5_ := nb BK624 hg; have n6_ := nc BK624 hg; clear BK624; clear HB; have BK624 := n0_; have HB := n1_; have BK625 := n2_; have GW625 := n3_; have GE625 := n4_; have NB624_625 := n5_; have NB625_624 := n6_; clear n0_ n1_ n2_ n3_ n4_ n5_ n6_; clear hb hbox hg) | ((with_reducible refine gate_dst (N := 7) rfl ?_); refine bxe 7 #[.int .i64 0, .int .i64 0] 30 ?_; intro gb626 hg w8 hbox hb; have n0_ := Aside0.mk (blk_below (uK BK624.out) hb); have n1_ := Aside0.mk (blk_below (uK BK625.out) hb); have n2_ := Aside0.mk (below_step uB hb); have n3_ := Aside0.mk (hbox); have n4_ := gw hg; have n5_ := gw hg; have n6_ := nb BK624 hg; have n7_ := nc BK624 hg; have n8_ := nb BK625 hg; have n9_ := nc BK625 hg; clear BK624; clear BK625; clear HB; have BK624 := n0_; have BK625 := n1_; have HB := n2_; have BK626 := n3_; have GW626 := n4_; have GE626 := n5_; have NB624_626 := n6_; have NB626_624 := n7_; have NB625_626 := n8_; have NB626_625 := n9_; clear n0_ n1_ n2_ n3_ n4_ n5_ n6_ n7_ n8_ n9_; clear hb hbox hg; have hnb9 := NB626_624.out; have hnc9 := NB624_626.out; have hnb10 := NB626_625.out; have hnc10 := NB625_626.out; obtain ⟨hcz11_0, hcz11_1⟩ := cz2 BK626.out; obtain ⟨hfz11_0, hfz11_1⟩ := fz2 BK626.out; have hnb12 := NB624_625.out; have hnc12 := NB625_624.out; obtain ⟨hcz13_0, hcz13_1⟩ := cz2 BK624.out; obtain ⟨hfz13_0, hfz13_1⟩ := fz2 BK624.out; have p627 : 0 ≤ (a1 : Int) := of_decide_eq_true (by first | (with_reducible assumption) | assumption); have q627 : a1 < (l0_1.length : Int) := of_decide_eq_true (by first | (with_reducible assumption) | assumption); obtain ⟨ad627, e627, hx627_0, hx627_1, hx627_2, hx627_3, hx627_4⟩ := at_T32 HR0_1.out a1 p627 q627; cases e627; have hn627_0 : ad627.block ≠ gb626 := Nat.ne_of_lt (Nat.lt_of_lt_of_le (bl1 hx627_0) GW626.out); have hn627_1 : ad627.block ≠ gb626 := Nat.ne_of_lt (Nat.lt_of_lt_of_le (bl1 hx627_0) GW626.out); replace hx627_0 := hcell HB.out hx627_0; replace hx627_1 := hcell HB.out hx627_1; replace hx627_2 := hcell HB.out hx627_2; replace hx627_3 := hcell HB.out hx627_3; replace hx627_4 := hcell HB.out hx627_4; replace hx627_0 := (cell_far (p := ⟨gb626, 0, none⟩) (fx hn627_0) (.int .i64 10000001)).trans hx627_0; replace hx627_1 := (cell_far (p := ⟨gb626, 0, none⟩) (fx hn627_0) (.int .i64 10000001)).trans hx627_1; replace hx627_2 := (cell_far (p := ⟨gb626, 0, none⟩) (fx hn627_0) (.int .i64 10000001)).trans hx627_2; replace hx627_3 := (cell_far (p := ⟨gb626, 0, none⟩) (fx hn627_0) (.int .i64 10000001)).trans hx627_3; replace hx627_4 := (cell_far (p := ⟨gb626, 0, none⟩) (fx hn627_0) (.int .i64 10000001)).trans hx627_4; replace hx627_0 := (cell_far (p := ⟨gb626, 1, none⟩) (fx hn627_1) (.int .i64 (-1))).trans hx627_0; replace hx627_1 := (cell_far (p := ⟨gb626, 1, none⟩) (fx hn627_1) (.int .i64 (-1))).trans hx627_1; replace hx627_2 := (cell_far (p := ⟨gb626, 1, none⟩) (fx hn627_1) (.int .i64 (-1))).trans hx627_2; replace hx627_3 := (cell_far (p := ⟨gb626, 1, none⟩) (fx hn627_1) (.int .i64 (-1))).trans hx627_3; replace hx627_4 := (cell_far (p := ⟨gb626, 1, none⟩) (fx hn627_1) (.int .i64 (-1))).trans hx627_4; clear hn627_0; clear hn627_1; replace p627 := eq_true p627; replace q627 := eq_true q627))
 go_loopg [8] k (fun kq v8 w' => ∃ (x8_1 : Int) (x627000_1 : Int) (x627001_1 : Int), v8 = .int .i64 x8_1 ∧ Aside0 (quinariaref02_Carries.l0 kq a1 a2 x8_1 l0_0 l0_1 x627000_1 x627001_1 = some (r1, r2)) ∧ Aside0 (kq ≤ k) ∧ Aside0 (w'.heap[gb624]? = some (.cells #[(.slice A0_0 l0_0.length c0_0), (.slice (some ad627) l0_1.length c0_1)] 25 (0, 0))) ∧ Aside0 (w'.heap[gb625]? = some (.cells #[.int .i64 0, .int .i64 0] 30 (0, 0))) ∧ Aside0 (w'.heap[gb626]? = some (.cells #[.int .i64 x627000_1, .int .i64 x627001_1] 30 (0, 0))) ∧ Aside0 (Below w.heap.size w w'))
 case atStart => exact ⟨((rd_T32 l0_1 a1).f3.f0), (10000001), ((-1)), u0, H', ⟨Nat.le_refl _⟩, ⟨by refine uK ?_; refine blk_far ?_ NB624_626.out _; refine uK ?_; refine blk_far ?_ NB624_626.out _; refine uK ?_; exact BK624.out⟩, ⟨by refine uK ?_; refine blk_far ?_ NB625_626.out _; refine uK ?_; refine blk_far ?_ NB625_626.out _; refine uK ?_; exact BK625.out⟩, ⟨by refine uK ?_; refine blk_put (cs := #[.int .i64 10000001, .int .i64 0]) ?_ 1 _ rfl; refine uK ?_; refine blk_put (cs := #[.int .i64 0, .int .i64 0]) ?_ 0 _ rfl; refine uK ?_; exact BK626.out⟩, ⟨uB⟩⟩
 case round =>
  clear H'
  obtain ⟨x8_1, x627000_1, x627001_1, rfl, HA, HK1, BK624, BK625, BK626, HB⟩ := hrel
  cases gk with
  | zero => exact absurd HA.out (by simp [quinariaref02_Carries.l0])
  | succ k1 =>
   have H := HA.out
   clear HA
   simp only [quinariaref02_Carries.l0] at H
   obtain ⟨c14, H⟩ := ifs H
   replace c14 := decide_eq_true c14
   obtain ⟨c15, H⟩ := ifs H
   replace c15 := decide_eq_true c15
   by_cases c16 : x8_1 ≤ ((rd_T32 l0_1 a1).f3.f1)
   ·rw [if_pos c16] at H
    replace c16 := decide_eq_true c16
    replace H := Option.bind_eq_some_iff.mp H
    obtain ⟨t629, A170, H⟩ := H
    replace H : (quinariaref02_Carries.l0 k1 a1 a2 (wrap64 (x8_1 + 1)) l0_0 l0_1 (mn x627000_1 t629) (mx x627001_1 t629)) = some (r1, r2) := H
    have A17 := Aside0.mk A170
    clear A170
    obtain ⟨ji18, hji18⟩ : ∃ j_ : Int, (mn x627000_1 t629) = j_ := ⟨_, rfl⟩
    replace H : (quinariaref02_Carries.l0 k1 a1 a2 (wrap64 (x8_1 + 1)) l0_0 l0_1 ji18 (mx x627001_1 t629)) = some (r1, r2) := by first | (rw [hji18] at H; exact H) | (simp only [hji18] at H ⊢; exact H)
    (try rw [hji18] at A17)
    have hji18_ : (if t629 < x627000_1 then t629 else x627000_1) = ji18 := hji18
    obtain ⟨ji19, hji19⟩ : ∃ j_ : Int, (mx x627001_1 t629) = j_ := ⟨_, rfl⟩
    replace H : (quinariaref02_Carries.l0 k1 a1 a2 (wrap64 (x8_1 + 1)) l0_0 l0_1 ji18 ji19) = some (r1, r2) := by first | (rw [hji19] at H; exact H) | (simp only [hji19] at H ⊢; exact H)
    (try rw [hji19] at A17)
    have hji19_ : (if x627001_1 < t629 then t629 else x627001_1) = ji19 := hji19
    have H' := Aside0.mk H
    clear H
    have hnb20 := NB624_625.out
    have hnc20 := NB625_624.out
    have hnb21 := NB624_626.out
    have hnc21 := NB626_624.out
    obtain ⟨hcz22_0, hcz22_1⟩ := cz2 BK624.out
    obtain ⟨hfz22_0, hfz22_1⟩ := fz2 BK624.out
    have p628 : 0 ≤ (a1 : Int) := of_decide_eq_true (by first | (with_reducible assumption) | assumption)
    have q628 : a1 < (l0_1.length : Int) := of_decide_eq_true (by first | (with_reducible assumption) | assumption)
    obtain ⟨ad628, e628, hx628_0, hx628_1, hx628_2, hx628_3, hx628_4⟩ := at_T32 HR0_1.out a1 p628 q628
    obtain rfl : ad627 = ad628 := (by injection e628)
    replace hx628_0 := hcell HB.out hx628_0
    replace hx628_1 := hcell HB.out hx628_1
    replace hx628_2 := hcell HB.out hx628_2
    replace hx628_3 := hcell HB.out hx628_3
    replace hx628_4 := hcell HB.out hx628_4
    replace p628 := eq_true p628
    replace q628 := eq_true q628
    go_wp2_with (first | ((with_reducible refine gate_callee (f := 19) rfl ?_); refine goesL_ (some 33) rfl rfl Tryz.func19 (by kernel_rfl) rfl #[.agg #[.slice A0_0 l0_0.length c0_0, .slice (some ad627) l0_1.length c0_1], .int .i64 a1, .int .i64 a2, .int .i64 x8_1] rfl uM ?_; (with_reducible refine (quinariaref02_Cups.calls _ _ l0_0 _ _ l0_1 a1 a2 x8_1 t629 _ ?side1 ?side2 ?side3 ?side4 A17.out).mono ?_); (case side1 => exact uC (Kd.C_below HR0_0.out HB.out)); (case side2 => exact HC0_0.out); (case side3 => exact uC (Kd.C_below HR0_1.out HB.out)); (case side4 => exact HC0_1.out); rintro e w23 ⟨rfl, hb⟩; refine ⟨_, rfl, ?_⟩; replace BK624 := Aside0.mk (blk_below (uK BK624.out) hb); replace BK625 := Aside0.mk (blk_below (uK BK625.out) hb); replace BK626 := Aside0.mk (blk_below (uK BK626.out) hb); replace HB := Aside0.mk (below_step uB hb); (try clear hb); (try clear hb2); (try clear hk); (try clear hi); have hnb24 := NB626_625.out; have hnc24 := NB625_626.out; obtain ⟨hcz25_0, hcz25_1⟩ := cz2 BK626.out; obtain ⟨hfz25_0, hfz25_1⟩ := fz2 BK626.out))
    go_roundg k1
    case measure => have := HK1.out; omega
    case rel => exact ⟨(wrap64 (x8_1 + 1)), (ji18), (ji19), u0, H', ⟨by have := HK1.out; omega⟩, ⟨by refine uK ?_; refine blk_far ?_ NB624_626.out _; refine uK ?_; refine blk_far ?_ NB624_626.out _; refine uK ?_; exact BK624.out⟩, ⟨by refine uK ?_; refine blk_far ?_ NB625_626.out _; refine uK ?_; refine blk_far ?_ NB625_626.out _; refine uK ?_; exact BK625.out⟩, ⟨by refine uK ?_; refine blk_put (cs := #[.int .i64 ji18, .int .i64 x627001_1]) ?_ 1 _ rfl; refine uK ?_; refine blk_put (cs := #[.int .i64 x627000_1, .int .i64 x627001_1]) ?_ 0 _ rfl; refine uK ?_; exact BK626.out⟩, ⟨uB⟩⟩
   ·rw [if_neg c16] at H
    replace c16 := decide_eq_false c16
    simp only [Option.some.injEq, Prod.mk.injEq] at H
    obtain ⟨rfl, rfl⟩ := H
    have hnb26 := NB624_625.out
    have hnc26 := NB625_624.out
    have hnb27 := NB624_626.out
    have hnc27 := NB626_624.out
    obtain ⟨hcz28_0, hcz28_1⟩ := cz2 BK624.out
    obtain ⟨hfz28_0, hfz28_1⟩ := fz2 BK624.out
    have p628 : 0 ≤ (a1 : Int) := of_decide_eq_true (by first | (with_reducible assumption) | assumption)
    have q628 : a1 < (l0_1.length : Int) := of_decide_eq_true (by first | (with_reducible assumption) | assumption)
    obtain ⟨ad628, e628, hx628_0, hx628_1, hx628_2, hx628_3, hx628_4⟩ := at_T32 HR0_1.out a1 p628 q628
    obtain rfl : ad627 = ad628 := (by injection e628)
    replace hx628_0 := hcell HB.out hx628_0
    replace hx628_1 := hcell HB.out hx628_1
    replace hx628_2 := hcell HB.out hx628_2
    replace hx628_3 := hcell HB.out hx628_3
    replace hx628_4 := hcell HB.out hx628_4
    replace p628 := eq_true p628
    replace q628 := eq_true q628
    have hnb29 := NB626_625.out
    have hnc29 := NB625_626.out
    obtain ⟨hcz30_0, hcz30_1⟩ := cz2 BK626.out
    obtain ⟨hfz30_0, hfz30_1⟩ := fz2 BK626.out
    obtain ⟨hcz31_0, hcz31_1⟩ := cz2 BK625.out
    obtain ⟨hfz31_0, hfz31_1⟩ := fz2 BK625.out
    go_wp2
    refine bodyPost_ret (results_cell_row rfl _ _ gb625 30 #[.int .i64 x627000_1, .int .i64 x627001_1] (0, 0) _ rfl (by refine uK ?_; refine blk_put (cs := #[.int .i64 x627000_1, .int .i64 0]) ?_ 1 _ rfl; refine uK ?_; refine blk_put (cs := #[.int .i64 0, .int .i64 0]) ?_ 0 _ rfl; refine uK ?_; exact BK625.out) Tryz.underlying30 rfl (by kernel_rfl)) rfl ?_
    exact ⟨uE, uB⟩
end Go.Proofs.YtdmdahafiiggiaaGreatDoor.K
end
section
namespace Go.Proofs.YtdmdahafiiggiaaGreatDoor.K
open Go.RowKit Go.Proofs.YtdmdahafiiggiaaGreatDoorW.PrintWords Go.Proofs.YtdmdahafiiggiaaGreatDoorW.PrintLast Go.Proofs.YtdmdahafiiggiaaGreatDoorW.PrintMore
attribute [local go_sem] max2_int min2_int max_two min_two max_three min_three max_four min_four
set_option linter.unusedVariables false
set_option linter.unusedSimpArgs false
def quinariaref02_Latest.l0 : Nat → Int → Int → Int → List Int → List (S32) → Option (Int)
 | 0, _, _, _, _, _ => none
 | k + 1, x1, x2, x7, x716000, x716001 => if x7 ≥ 0 then ((quinariaref02_Carries.f k x716000 x716001 x1 x7).bind fun bt716 => (if bt716.1 ≥ x2 then (some x7) else (quinariaref02_Latest.l0 k x1 x2 (wrap64 (x7 - 1)) x716000 x716001))) else (some (-1))
def quinariaref02_Latest.f (k : Nat) (l0_0 : List Int) (l0_1 : List (S32)) (a1 : Int) (a2 : Int) : Option (Int) := quinariaref02_Latest.l0 k a1 a2 200 l0_0 l0_1
set_option maxHeartbeats 8000000 in
set_option maxRecDepth 100000 in
theorem quinariaref02_Latest.calls (k : Nat) (A0_0 : Option Addr) (c0_0 : Nat) (l0_0 : List Int) (A0_1 : Option Addr) (c0_1 : Nat) (l0_1 : List (S32)) (a1 : Int) (a2 : Int) (r : Int) (w : World) (hr0_0 : Kd.C (Kd.int .i64) w A0_0 l0_0.length l0_0) (hc0_0 : l0_0.length ≤ c0_0) (hr0_1 : Kd.C k32 w A0_1 l0_1.length l0_1) (hc0_1 : l0_1.length ≤ c0_1) (h : quinariaref02_Latest.f k l0_0 l0_1 a1 a2 = some r) :
  Calls Tryz.prog 30 #[.agg #[.slice A0_0 l0_0.length c0_0, .slice A0_1 l0_1.length c0_1], .int .i64 a1, .int .i64 a2] w fun e w' => e = .returned (.int .i64 r) ∧ Below w.heap.size w w' := by
 have hu25 := Tryz.underlying25
 have hfl30_0 := fld30_0
 have HR0_0 := Aside0.mk hr0_0
 have HC0_0 := Aside0.mk hc0_0
 clear hr0_0 hc0_0
 have HR0_1 := Aside0.mk hr0_1
 have HC0_1 := Aside0.mk hc0_1
 clear hr0_1 hc0_1
 have HB := Aside0.mk (Below.refl w.heap.size w)
 have H : (quinariaref02_Latest.l0 k a1 a2 200 l0_0 l0_1) = some r := h
 clear h
 have H' := Aside0.mk H
 clear H
 go_enter Tryz.func30, Tryz.ntmps30
 go_wp2_with (first | ((with_reducible refine gate_dst (N := 3) rfl ?_); refine bxe 3 #[.slice A0_0 l0_0.length c0_0, .slice A0_1 l0_1.length c0_1] 25 ?_; intro gb715 hg w4 hbox hb; have n0_ := Aside0.mk (below_step uB hb); have n1_ := Aside0.mk (hbox); have n2_ := gw hg; have n3_ := gw hg; clear HB; have HB := n0_; have BK715 := n1_; have GW715 := n2_; have GE715 := n3_; clear n0_ n1_ n2_ n3_; clear hb hbox hg))
 go_loopg [7] k (fun kq v7 w' => ∃ (x7_1 : Int), v7 = .int .i64 x7_1 ∧ Aside0 (quinariaref02_Latest.l0 kq a1 a2 x7_1 l0_0 l0_1 = some r) ∧ Aside0 (kq ≤ k) ∧ Aside0 (w'.heap[gb715]? = some (.cells #[(.slice A0_0 l0_0.length c0_0), (.slice A0_1 l0_1.length c0_1)] 25 (0, 0))) ∧ Aside0 (Below w.heap.size w w'))
 case atStart => exact ⟨(200), u0, H', ⟨Nat.le_refl _⟩, ⟨uK BK715.out⟩, ⟨uB⟩⟩
 case round =>
  clear H'
  obtain ⟨x7_1, rfl, HA, HK1, BK715, HB⟩ := hrel
  cases gk with
  | zero => exact absurd HA.out (by simp [quinariaref02_Latest.l0])
  | succ k1 =>
   have H := HA.out
   clear HA
   simp only [quinariaref02_Latest.l0] at H
   by_cases c5 : x7_1 ≥ 0
   ·rw [if_pos c5] at H
    replace c5 := decide_eq_true c5
    replace H := Option.bind_eq_some_iff.mp H
    obtain ⟨⟨t716, t717⟩, A60, H⟩ := H
    replace H : (if t716 ≥ a2 then (some x7_1) else (quinariaref02_Latest.l0 k1 a1 a2 (wrap64 (x7_1 - 1)) l0_0 l0_1)) = some r := H
    have A6 := Aside0.mk A60
    clear A60
    by_cases c7 : t716 ≥ a2
    ·rw [if_pos c7] at H
     replace c7 := decide_eq_true c7
     obtain rfl := Option.some.inj H
     obtain ⟨hcz8_0, hcz8_1⟩ := cz2 BK715.out
     obtain ⟨hfz8_0, hfz8_1⟩ := fz2 BK715.out
     go_wp2_with (first | ((with_reducible refine gate_callee (f := 62) rfl ?_); refine goesL_ (some 15) rfl rfl Tryz.func62 (by kernel_rfl) rfl #[.agg #[.slice A0_0 l0_0.length c0_0, .slice A0_1 l0_1.length c0_1], .int .i64 a1, .int .i64 x7_1] rfl uM ?_; (with_reducible refine (quinariaref02_Carries.calls k1 _ _ l0_0 _ _ l0_1 a1 x7_1 t716 t717 _ ?side1 ?side2 ?side3 ?side4 A6.out).mono ?_); (case side1 => exact uC (Kd.C_below HR0_0.out HB.out)); (case side2 => exact HC0_0.out); (case side3 => exact uC (Kd.C_below HR0_1.out HB.out)); (case side4 => exact HC0_1.out); rintro e w9 ⟨rfl, hb⟩; refine ⟨_, rfl, ?_⟩; replace BK715 := Aside0.mk (blk_below (uK BK715.out) hb); replace HB := Aside0.mk (below_step uB hb); (try clear hb); (try clear hb2); (try clear hk); (try clear hi)))
     go_ret
     exact ⟨uE, uB⟩
    ·rw [if_neg c7] at H
     replace c7 := decide_eq_false c7
     have H' := Aside0.mk H
     clear H
     obtain ⟨hcz10_0, hcz10_1⟩ := cz2 BK715.out
     obtain ⟨hfz10_0, hfz10_1⟩ := fz2 BK715.out
     go_wp2_with (first | ((with_reducible refine gate_callee (f := 62) rfl ?_); refine goesL_ (some 15) rfl rfl Tryz.func62 (by kernel_rfl) rfl #[.agg #[.slice A0_0 l0_0.length c0_0, .slice A0_1 l0_1.length c0_1], .int .i64 a1, .int .i64 x7_1] rfl uM ?_; (with_reducible refine (quinariaref02_Carries.calls k1 _ _ l0_0 _ _ l0_1 a1 x7_1 t716 t717 _ ?side1 ?side2 ?side3 ?side4 A6.out).mono ?_); (case side1 => exact uC (Kd.C_below HR0_0.out HB.out)); (case side2 => exact HC0_0.out); (case side3 => exact uC (Kd.C_below HR0_1.out HB.out)); (case side4 => exact HC0_1.out); rintro e w11 ⟨rfl, hb⟩; refine ⟨_, rfl, ?_⟩; replace BK715 := Aside0.mk (blk_below (uK BK715.out) hb); replace HB := Aside0.mk (below_step uB hb); (try clear hb); (try clear hb2); (try clear hk); (try clear hi)))
     go_roundg k1
     case measure => have := HK1.out; omega
     case rel => exact ⟨(wrap64 (x7_1 - 1)), u0, H', ⟨by have := HK1.out; omega⟩, ⟨uK BK715.out⟩, ⟨uB⟩⟩
   ·rw [if_neg c5] at H
    replace c5 := decide_eq_false c5
    obtain rfl := Option.some.inj H
    go_wp2
    go_ret
    exact ⟨uE, uB⟩
end Go.Proofs.YtdmdahafiiggiaaGreatDoor.K
end
section
namespace Go.Proofs.YtdmdahafiiggiaaGreatDoor.K
open Go.RowKit Go.Proofs.YtdmdahafiiggiaaGreatDoorW.PrintWords Go.Proofs.YtdmdahafiiggiaaGreatDoorW.PrintLast Go.Proofs.YtdmdahafiiggiaaGreatDoorW.PrintMore
attribute [local go_sem] max2_int min2_int max_two min_two max_three min_three max_four min_four
set_option linter.unusedVariables false
set_option linter.unusedSimpArgs false
def quinariaref02_Last.f (k : Nat) (l0_0 : List Int) (l0_1 : List (S32)) (a1 : Int) (a2 : Int) (a3 : Int) (a4 : Int) : Option (Int) := (quinariaref02_Latest.f k l0_0 l0_1 a1 a3).bind fun t818 => (if t818 = 200 then (some 1000) else (if (wrap64 (t818 - a2)) ≥ a4 then (some 1000) else (some (wrap64 (t818 - a2)))))
set_option maxHeartbeats 8000000 in
set_option maxRecDepth 100000 in
theorem quinariaref02_Last.calls (k : Nat) (A0_0 : Option Addr) (c0_0 : Nat) (l0_0 : List Int) (A0_1 : Option Addr) (c0_1 : Nat) (l0_1 : List (S32)) (a1 : Int) (a2 : Int) (a3 : Int) (a4 : Int) (r : Int) (w : World) (hr0_0 : Kd.C (Kd.int .i64) w A0_0 l0_0.length l0_0) (hc0_0 : l0_0.length ≤ c0_0) (hr0_1 : Kd.C k32 w A0_1 l0_1.length l0_1) (hc0_1 : l0_1.length ≤ c0_1) (h : quinariaref02_Last.f k l0_0 l0_1 a1 a2 a3 a4 = some r) :
  Calls Tryz.prog 75 #[.agg #[.slice A0_0 l0_0.length c0_0, .slice A0_1 l0_1.length c0_1], .int .i64 a1, .int .i64 a2, .int .i64 a3, .int .i64 a4] w fun e w' => e = .returned (.int .i64 r) ∧ Below w.heap.size w w' := by
 have hu25 := Tryz.underlying25
 have HR0_0 := Aside0.mk hr0_0
 have HC0_0 := Aside0.mk hc0_0
 clear hr0_0 hc0_0
 have HR0_1 := Aside0.mk hr0_1
 have HC0_1 := Aside0.mk hc0_1
 clear hr0_1 hc0_1
 have HB := Aside0.mk (Below.refl w.heap.size w)
 have H : ((quinariaref02_Latest.f k l0_0 l0_1 a1 a3).bind fun t818 => (if t818 = 200 then (some 1000) else (if (wrap64 (t818 - a2)) ≥ a4 then (some 1000) else (some (wrap64 (t818 - a2)))))) = some r := h
 clear h
 replace H := Option.bind_eq_some_iff.mp H
 obtain ⟨t818, A60, H⟩ := H
 replace H : (if t818 = 200 then (some 1000) else (if (wrap64 (t818 - a2)) ≥ a4 then (some 1000) else (some (wrap64 (t818 - a2))))) = some r := H
 have A6 := Aside0.mk A60
 clear A60
 by_cases c7 : t818 = 200
 ·rw [if_pos c7] at H
  have c7b0 : (t818 == 200) = true := beq_iff_eq.mpr c7
  have c7b1 : (t818 != 200) = false := bne_eq_false_iff_eq.mpr c7
  clear c7
  obtain rfl := Option.some.inj H
  go_enter Tryz.func75, Tryz.ntmps75
  go_wp2_with (first | ((with_reducible refine gate_dst (N := 5) rfl ?_); refine bxe 5 #[.slice A0_0 l0_0.length c0_0, .slice A0_1 l0_1.length c0_1] 25 ?_; intro gb817 hg w8 hbox hb; have n0_ := Aside0.mk (below_step uB hb); have n1_ := Aside0.mk (hbox); have n2_ := gw hg; have n3_ := gw hg; clear HB; have HB := n0_; have BK817 := n1_; have GW817 := n2_; have GE817 := n3_; clear n0_ n1_ n2_ n3_; clear hb hbox hg; obtain ⟨hcz9_0, hcz9_1⟩ := cz2 BK817.out; obtain ⟨hfz9_0, hfz9_1⟩ := fz2 BK817.out) | ((with_reducible refine gate_callee (f := 30) rfl ?_); refine goesL_ (some 15) rfl rfl Tryz.func30 (by kernel_rfl) rfl #[.agg #[.slice A0_0 l0_0.length c0_0, .slice A0_1 l0_1.length c0_1], .int .i64 a1, .int .i64 a3] rfl uM ?_; (with_reducible refine (quinariaref02_Latest.calls k _ _ l0_0 _ _ l0_1 a1 a3 t818 _ ?side1 ?side2 ?side3 ?side4 A6.out).mono ?_); (case side1 => exact uC (Kd.C_below HR0_0.out HB.out)); (case side2 => exact HC0_0.out); (case side3 => exact uC (Kd.C_below HR0_1.out HB.out)); (case side4 => exact HC0_1.out); rintro e w10 ⟨rfl, hb⟩; refine ⟨_, rfl, ?_⟩; replace BK817 := Aside0.mk (blk_below (uK BK817.out) hb); replace HB := Aside0.mk (below_step uB hb); (try clear hb); (try clear hb2); (try clear hk); (try clear hi)))
  go_ret
  exact ⟨uE, uB⟩
 ·rw [if_neg c7] at H
  have c7b0 : (t818 == 200) = false := beq_eq_false_iff_ne.mpr c7
  have c7b1 : (t818 != 200) = true := bne_iff_ne.mpr c7
  by_cases c11 : (wrap64 (t818 - a2)) ≥ a4
  ·rw [if_pos c11] at H
   replace c11 := decide_eq_true c11
   obtain rfl := Option.some.inj H
   go_enter Tryz.func75, Tryz.ntmps75
   go_wp2_with (first | ((with_reducible refine gate_dst (N := 5) rfl ?_); refine bxe 5 #[.slice A0_0 l0_0.length c0_0, .slice A0_1 l0_1.length c0_1] 25 ?_; intro gb817 hg w12 hbox hb; have n0_ := Aside0.mk (below_step uB hb); have n1_ := Aside0.mk (hbox); have n2_ := gw hg; have n3_ := gw hg; clear HB; have HB := n0_; have BK817 := n1_; have GW817 := n2_; have GE817 := n3_; clear n0_ n1_ n2_ n3_; clear hb hbox hg; obtain ⟨hcz13_0, hcz13_1⟩ := cz2 BK817.out; obtain ⟨hfz13_0, hfz13_1⟩ := fz2 BK817.out) | ((with_reducible refine gate_callee (f := 30) rfl ?_); refine goesL_ (some 15) rfl rfl Tryz.func30 (by kernel_rfl) rfl #[.agg #[.slice A0_0 l0_0.length c0_0, .slice A0_1 l0_1.length c0_1], .int .i64 a1, .int .i64 a3] rfl uM ?_; (with_reducible refine (quinariaref02_Latest.calls k _ _ l0_0 _ _ l0_1 a1 a3 t818 _ ?side1 ?side2 ?side3 ?side4 A6.out).mono ?_); (case side1 => exact uC (Kd.C_below HR0_0.out HB.out)); (case side2 => exact HC0_0.out); (case side3 => exact uC (Kd.C_below HR0_1.out HB.out)); (case side4 => exact HC0_1.out); rintro e w14 ⟨rfl, hb⟩; refine ⟨_, rfl, ?_⟩; replace BK817 := Aside0.mk (blk_below (uK BK817.out) hb); replace HB := Aside0.mk (below_step uB hb); (try clear hb); (try clear hb2); (try clear hk); (try clear hi)))
   go_ret
   exact ⟨uE, uB⟩
  ·rw [if_neg c11] at H
   replace c11 := decide_eq_false c11
   obtain rfl := Option.some.inj H
   go_enter Tryz.func75, Tryz.ntmps75
   go_wp2_with (first | ((with_reducible refine gate_dst (N := 5) rfl ?_); refine bxe 5 #[.slice A0_0 l0_0.length c0_0, .slice A0_1 l0_1.length c0_1] 25 ?_; intro gb817 hg w15 hbox hb; have n0_ := Aside0.mk (below_step uB hb); have n1_ := Aside0.mk (hbox); have n2_ := gw hg; have n3_ := gw hg; clear HB; have HB := n0_; have BK817 := n1_; have GW817 := n2_; have GE817 := n3_; clear n0_ n1_ n2_ n3_; clear hb hbox hg; obtain ⟨hcz16_0, hcz16_1⟩ := cz2 BK817.out; obtain ⟨hfz16_0, hfz16_1⟩ := fz2 BK817.out) | ((with_reducible refine gate_callee (f := 30) rfl ?_); refine goesL_ (some 15) rfl rfl Tryz.func30 (by kernel_rfl) rfl #[.agg #[.slice A0_0 l0_0.length c0_0, .slice A0_1 l0_1.length c0_1], .int .i64 a1, .int .i64 a3] rfl uM ?_; (with_reducible refine (quinariaref02_Latest.calls k _ _ l0_0 _ _ l0_1 a1 a3 t818 _ ?side1 ?side2 ?side3 ?side4 A6.out).mono ?_); (case side1 => exact uC (Kd.C_below HR0_0.out HB.out)); (case side2 => exact HC0_0.out); (case side3 => exact uC (Kd.C_below HR0_1.out HB.out)); (case side4 => exact HC0_1.out); rintro e w17 ⟨rfl, hb⟩; refine ⟨_, rfl, ?_⟩; replace BK817 := Aside0.mk (blk_below (uK BK817.out) hb); replace HB := Aside0.mk (below_step uB hb); (try clear hb); (try clear hb2); (try clear hk); (try clear hi)))
   go_ret
   exact ⟨uE, uB⟩
end Go.Proofs.YtdmdahafiiggiaaGreatDoor.K
end
section
namespace Go.Proofs.YtdmdahafiiggiaaGreatDoor.K
open Go.RowKit Go.Proofs.YtdmdahafiiggiaaGreatDoorW.PrintWords Go.Proofs.YtdmdahafiiggiaaGreatDoorW.PrintLast Go.Proofs.YtdmdahafiiggiaaGreatDoorW.PrintMore
attribute [local go_sem] max2_int min2_int max_two min_two max_three min_three max_four min_four
set_option linter.unusedVariables false
set_option linter.unusedSimpArgs false
mutual
def quinariaref02_years.l0 : Nat → List Int → List Int → Int → Option (List Int × Bool)
 | 0, _, _, _ => none
 | k + 1, x4, x5, x6 => if x6 ≥ 0 then (quinariaref02_years.l1 k x4 x5 x6 (-1) 0) else (some (x4, ((x5.length : Int) == 0)))
def quinariaref02_years.l1 : Nat → List Int → List Int → Int → Int → Int → Option (List Int × Bool)
 | 0, _, _, _, _, _ => none
 | k + 1, x4, x5, x6, x7, x8 => if x8 < (x5.length : Int) then (if 0 ≤ x8 then (if (rd x5 x8) ≥ x6 then (if x7 < 0 then (quinariaref02_years.l1 k x4 x5 x6 x8 (wrap64 (x8 + 1))) else (if 0 ≤ x7 then (if x7 < (x5.length : Int) then (if (rd x5 x8) > (rd x5 x7) then (quinariaref02_years.l1 k x4 x5 x6 x8 (wrap64 (x8 + 1))) else (quinariaref02_years.l1 k x4 x5 x6 x7 (wrap64 (x8 + 1)))) else (none)) else (none))) else (quinariaref02_years.l1 k x4 x5 x6 x7 (wrap64 (x8 + 1)))) else (none)) else (if x7 ≥ 0 then (if x4.length < 17592186044416 then (if 0 ≤ x7 then (if x7 ≤ (x5.length : Int) then ((some (x5.take (x7 : Int).toNat : List Int)).bind fun y828 => (if ([] : List Int).length + y828.length < 17592186044416 then ((some (([] : List Int) ++ y828 : List Int)).bind fun y832 => (if 0 ≤ (wrap64 (x7 + 1)) then (if (wrap64 (x7 + 1)) ≤ (x5.length : Int) then ((some (x5.drop ((wrap64 (x7 + 1)) : Int).toNat : List Int)).bind fun y835 => (if y832.length + y835.length < 17592186044416 then (quinariaref02_years.l0 k (x4 ++ [x6]) (y832 ++ y835) (wrap64 (x6 - 1))) else (none))) else (none)) else (none))) else (none))) else (none)) else (none)) else (none)) else (quinariaref02_years.l0 k x4 x5 (wrap64 (x6 - 1))))
end
def quinariaref02_years.f (k : Nat) (l0 : List Int) : Option (List Int × Bool) := if ([] : List Int).length + l0.length < 17592186044416 then (quinariaref02_years.l0 k ([] : List Int) (([] : List Int) ++ l0) 40) else (none)
def quinariaref02_years.T10 : Bool × List (List Nat × List Nat) := (true, [([], []), ([], []), ([0, 1], [0, 1]), ([2], [2]), ([], []), ([3, 4], [3, 4]), ([5], [5]), ([6], [6]), ([7, 6], [6, 7]), ([8, 6, 6], [6, 8]), ([9], [9]), ([9], [9]), ([10, 11, 9], [9, 10, 11]), ([12, 9], [9, 12]), ([9], [9]), ([9], [9]), ([14, 15, 9], [9, 14, 15]), ([16, 9], [9, 16]), ([13, 17, 9], [9, 13, 17]), ([9, 18, 6], [6, 9, 18]), ([6, 19], [6, 19])])
def quinariaref02_years.B10 : List Nat := [0, 0, 3, 7, 0, 31, 63, 127, 255, 511, 1023, 1023, 4095, 8191, 1023, 1023, 50175, 115711, 262143, 524287, 1048575]
theorem quinariaref02_years.tab10 : rtab .any (opsOf Tryz.f76 10) = quinariaref02_years.T10 := by kernel_rfl
theorem quinariaref02_years.bits10 : waitsOk quinariaref02_years.T10.2 quinariaref02_years.B10 = true := by kernel_rfl
def quinariaref02_years.T14 : Bool × List (List Nat × List Nat) := (true, [([], []), ([], []), ([0, 1], [0, 1]), ([2], [2]), ([], []), ([], []), ([5], [5]), ([4, 6], [4, 6]), ([3, 7, 3], [3, 7]), ([8, 8, 0, 1, 2, 3, 4, 5, 6, 7, 8], [0, 4, 8])])
def quinariaref02_years.B14 : List Nat := [0, 0, 3, 7, 0, 0, 32, 112, 255, 511]
theorem quinariaref02_years.tab14 : rtab .any (opsOf Tryz.f76 14) = quinariaref02_years.T14 := by kernel_rfl
theorem quinariaref02_years.bits14 : waitsOk quinariaref02_years.T14.2 quinariaref02_years.B14 = true := by kernel_rfl
set_option maxHeartbeats 8000000 in
set_option maxRecDepth 100000 in
theorem quinariaref02_years.calls (k : Nat) (A0 : Option Addr) (c0 : Nat) (l0 : List Int) (r1 : List Int) (r2 : Bool) (w : World) (hr0 : Kd.C (Kd.int .i64) w A0 l0.length l0) (hc0 : l0.length ≤ c0) (h : quinariaref02_years.f k l0 = some (r1, r2)) :
  Calls Tryz.prog 76 #[.slice A0 l0.length c0] w fun e w' => ∃ v0_ : Value, e = .returned (.tuple #[v0_, .bool r2]) ∧ Kd.R (Kd.int .i64) 3 w' w.heap.size (fun _ => True) v0_ r1 ∧ Below w.heap.size w w' := by
 have HR0 := Aside0.mk hr0
 have HC0 := Aside0.mk hc0
 clear hr0 hc0
 have HB := Aside0.mk (Below.refl w.heap.size w)
 have H : (if ([] : List Int).length + l0.length < 17592186044416 then (quinariaref02_years.l0 k ([] : List Int) (([] : List Int) ++ l0) 40) else (none)) = some (r1, r2) := h
 clear h
 obtain ⟨c2, H⟩ := ifs H
 have LMc2 := Aside0.mk c2
 clear c2
 obtain ⟨y819, hy819⟩ : ∃ y_ : List Int, y_ = (([] : List Int) ++ l0) := ⟨_, rfl⟩
 rw [← hy819] at H
 have Ny819 := Aside0.mk hy819
 clear hy819
 have H' := Aside0.mk H
 clear H
 go_enter Tryz.func76, Tryz.ntmps76
 go_wp2_with (first | ((with_reducible refine gate_builtin (b := .append) (xs := #[.const (.slice none 0 0), .tmp 9]) rfl ?_); at_builtin; refine Kd.R_append_rows (Kd.int .i64) (w0 := w) w.heap.size rfl (.const (.slice none 0 0)) (.tmp 9) 22 3 (.int .i64 0) 8 rfl Tryz.underlying22 info3 rfl (by decide) (by omega) (.slice none 0 0) ([] : List Int) l0 _ _ _ (fun _ => True) (fun _ => False) rfl rfl ?aO ?aR (fun _ _ h => h) (fun _ h => h.elim) ?aF ?aB ?aS ?aL ?_; (case aR => exact uC (HR0.out)); (case aB => exact uB); (case aF => exact (fun _ _ => trivial)); (case aO => exact ((Kd.R_nil _ _ _ _ (fun _ => True)))); (case aS => exact (below_size uB)); (case aL => have := LMc2.out; omega); intro v820 w3 ho hb hg hat; rw [← Ny819.out] at ho; have HO821 := Aside0.mk (ho); replace HB := Aside0.mk (hb); clear ho hb hg hat))
 go_loopg [4, 5, 6] k (fun kq v4 v5 v6 w' => ∃ (x4_1 : List Int) (x5_1 : List Int) (x6_1 : Int), v6 = .int .i64 x6_1 ∧ Aside0 (quinariaref02_years.l0 kq x4_1 x5_1 x6_1 = some (r1, r2)) ∧ Aside0 (kq ≤ k) ∧ Aside0 (Kd.R (Kd.int .i64) 3 w' w.heap.size (fun k_ => some k_ ≠ (v5 : Value).ownBlock) v4 x4_1) ∧ Aside0 (Kd.R (Kd.int .i64) 3 w' w.heap.size (fun k_ => some k_ ≠ (v4 : Value).ownBlock) v5 x5_1) ∧ Aside0 (Below w.heap.size w w'))
 case atStart => exact ⟨(([] : List Int)), (y819), (40), u0, H', ⟨Nat.le_refl _⟩, ⟨uN⟩, ⟨by refine uR ?_; exact Kd.R_mono HO821.out (fun _ hk => (by simp [Value.ownBlock]))⟩, ⟨uB⟩⟩
 case round =>
  clear H'
  obtain ⟨x4_1, x5_1, x6_1, rfl, HA, HK1, HO_4, HO_5, HB⟩ := hrel
  cases gk with
  | zero => exact absurd HA.out (by simp [quinariaref02_years.l0])
  | succ k1 =>
   have H := HA.out
   clear HA
   simp only [quinariaref02_years.l0] at H
   by_cases c4 : x6_1 ≥ 0
   ·rw [if_pos c4] at H
    replace c4 := decide_eq_true c4
    have H' := Aside0.mk H
    clear H
    go_wp2
    go_loopg [7, 8] k1 (fun kq v7 v8 w' => ∃ (x7_2 : Int) (x8_2 : Int), v7 = .int .i64 x7_2 ∧ v8 = .int .i64 x8_2 ∧ Aside0 (quinariaref02_years.l1 kq x4_1 x5_1 x6_1 x7_2 x8_2 = some (r1, r2)) ∧ Aside0 (kq ≤ k1) ∧ Aside0 (Kd.R (Kd.int .i64) 3 w' w.heap.size (fun k_ => some k_ ≠ (u5 : Value).ownBlock) u4 x4_1) ∧ Aside0 (Kd.R (Kd.int .i64) 3 w' w.heap.size (fun k_ => some k_ ≠ (u4 : Value).ownBlock) u5 x5_1) ∧ Aside0 (Below w.heap.size w w'))
    case atStart => exact ⟨((-1)), (0), u0, u0, H', ⟨Nat.le_refl _⟩, ⟨uR HO_4.out⟩, ⟨uR HO_5.out⟩, ⟨uB⟩⟩
    case round =>
     clear H'
     obtain ⟨x7_2, x8_2, rfl, rfl, HA, HK2, HO_4, HO_5, HB⟩ := hrel
     cases gk with
     | zero => exact absurd HA.out (by simp [quinariaref02_years.l1])
     | succ k2 =>
      have H := HA.out
      clear HA
      simp only [quinariaref02_years.l1] at H
      by_cases c5 : x8_2 < (x5_1.length : Int)
      ·rw [if_pos c5] at H
       replace c5 := decide_eq_true c5
       obtain ⟨c6, H⟩ := ifs H
       replace c6 := decide_eq_true c6
       by_cases c7 : (rd x5_1 x8_2) ≥ x6_1
       ·rw [if_pos c7] at H
        replace c7 := decide_eq_true c7
        by_cases c8 : x7_2 < 0
        ·rw [if_pos c8] at H
         replace c8 := decide_eq_true c8
         have H' := Aside0.mk H
         clear H
         obtain ⟨Ao9, co9, eo9⟩ := Kd.R_slice HO_5.out
         subst eo9
         try go_wp2
         replace HO_4 := Aside0.mk (Kd.R_drew HO_4.out)
         replace HO_5 := Aside0.mk (Kd.R_drew HO_5.out)
         replace HB := Aside0.mk (below_drew1 HB.out)
         have p822 : 0 ≤ (x8_2 : Int) := of_decide_eq_true (by first | (with_reducible assumption) | assumption)
         have q822 : x8_2 < (x5_1.length : Int) := of_decide_eq_true (by first | (with_reducible assumption) | assumption)
         obtain ⟨ad822, e822, hx822_0⟩ := Kd.at_int (Kd.R_reads' HO_5.out).2.2 x8_2 p822 q822
         cases e822
         replace p822 := eq_true p822
         replace q822 := eq_true q822
         refine start_ (n := 21) (S := fun w' => w'.cell? (ad822.add (x8_2).toNat) = some (.int .i64 (rd x5_1 x8_2))) (ds := []) (bl 21 0) (by kernel_rfl) rfl rfl (hx822_0) (fun hHeld => ?_); refine with_tabW quinariaref02_years.tab10 quinariaref02_years.bits10 (fun HT_ HW_ => ?_)
         generalize wr.drew = w10 at HO_4 HO_5 HB hx822_0 hHeld ⊢
         refine pu 0 21 21 1 ?_
         refine pu 1 22 21 3 ?_
         refine pu 2 23 21 7 ?_
         refine pu 4 25 21 23 ?_
         refine tk1 3 24 21 31 hHeld ?_
         refine pu 5 26 21 63 ?_
         refine pu 6 27 21 127 ?_
         refine pu 7 28 21 255 ?_
         refine pu 8 29 21 511 ?_
         refine pu 9 30 21 1023 ?_
         refine pd 10 31 21 2047 ?_
         refine pd 11 32 21 4095 ?_
         refine pd 12 33 21 8191 ?_
         refine pd 13 34 21 16383 ?_
         refine pd 14 35 21 32767 ?_
         refine pd 15 36 21 65535 ?_
         refine pd 16 37 21 131071 ?_
         refine pd 17 38 21 262143 ?_
         refine pd 18 39 21 524287 ?_
         refine pu 19 40 21 1048575 ?_
         refine pu 20 41 21 2097151 ?_
         refine done_ (done_of HT_.out (by kernel_rfl)) ?_
         try go_wp2
         go_roundg k2
         case measure => have := HK1.out; have := HK2.out; omega
         case rel => exact ⟨(x8_2), (wrap64 (x8_2 + 1)), u0, u0, H', ⟨by have := HK1.out; have := HK2.out; omega⟩, ⟨uR HO_4.out⟩, ⟨uR HO_5.out⟩, ⟨uB⟩⟩
        ·rw [if_neg c8] at H
         replace c8 := decide_eq_false c8
         obtain ⟨c11, H⟩ := ifs H
         replace c11 := decide_eq_true c11
         obtain ⟨c12, H⟩ := ifs H
         replace c12 := decide_eq_true c12
         by_cases c13 : (rd x5_1 x8_2) > (rd x5_1 x7_2)
         ·rw [if_pos c13] at H
          replace c13 := decide_eq_true c13
          have H' := Aside0.mk H
          clear H
          obtain ⟨Ao14, co14, eo14⟩ := Kd.R_slice HO_5.out
          subst eo14
          try go_wp2
          replace HO_4 := Aside0.mk (Kd.R_drew HO_4.out)
          replace HO_5 := Aside0.mk (Kd.R_drew HO_5.out)
          replace HB := Aside0.mk (below_drew1 HB.out)
          have p822 : 0 ≤ (x8_2 : Int) := of_decide_eq_true (by first | (with_reducible assumption) | assumption)
          have q822 : x8_2 < (x5_1.length : Int) := of_decide_eq_true (by first | (with_reducible assumption) | assumption)
          obtain ⟨ad822, e822, hx822_0⟩ := Kd.at_int (Kd.R_reads' HO_5.out).2.2 x8_2 p822 q822
          cases e822
          replace p822 := eq_true p822
          replace q822 := eq_true q822
          have p823 : 0 ≤ (x8_2 : Int) := of_decide_eq_true (by first | (with_reducible assumption) | assumption)
          have q823 : x8_2 < (x5_1.length : Int) := of_decide_eq_true (by first | (with_reducible assumption) | assumption)
          obtain ⟨ad823, e823, hx823_0⟩ := Kd.at_int (Kd.R_reads' HO_5.out).2.2 x8_2 p823 q823
          obtain rfl : ad822 = ad823 := (by injection e823)
          replace p823 := eq_true p823
          replace q823 := eq_true q823
          have p824 : 0 ≤ (x7_2 : Int) := of_decide_eq_true (by first | (with_reducible assumption) | assumption)
          have q824 : x7_2 < (x5_1.length : Int) := of_decide_eq_true (by first | (with_reducible assumption) | assumption)
          obtain ⟨ad824, e824, hx824_0⟩ := Kd.at_int (Kd.R_reads' HO_5.out).2.2 x7_2 p824 q824
          obtain rfl : ad822 = ad824 := (by injection e824)
          replace p824 := eq_true p824
          replace q824 := eq_true q824
          refine start_ (n := 21) (S := fun w' => w'.cell? (ad822.add (x8_2).toNat) = some (.int .i64 (rd x5_1 x8_2)) ∧ w'.cell? (ad822.add (x8_2).toNat) = some (.int .i64 (rd x5_1 x8_2)) ∧ w'.cell? (ad822.add (x7_2).toNat) = some (.int .i64 (rd x5_1 x7_2))) (ds := []) (bl 21 0) (by kernel_rfl) rfl rfl ⟨hx822_0, hx823_0, hx824_0⟩ (fun hHeld => ?_); refine with_tabW quinariaref02_years.tab10 quinariaref02_years.bits10 (fun HT_ HW_ => ?_)
          generalize wr.drew = w15 at HO_4 HO_5 HB hx822_0 hx823_0 hx824_0 hHeld ⊢
          refine pu 0 21 21 1 ?_
          refine pu 1 22 21 3 ?_
          refine pu 2 23 21 7 ?_
          refine pu 4 25 21 23 ?_
          refine tk3 3 24 21 31 hHeld ?_
          refine pu 5 26 21 63 ?_
          refine pu 6 27 21 127 ?_
          refine pu 7 28 21 255 ?_
          refine pu 8 29 21 511 ?_
          refine pu 9 30 21 1023 ?_
          refine pu 10 31 21 2047 ?_
          refine pu 11 32 21 4095 ?_
          refine pu 12 33 21 8191 ?_
          refine pu 14 35 21 24575 ?_
          refine pu 15 36 21 57343 ?_
          refine pu 16 37 21 122879 ?_
          refine tk3 13 34 21 131071 hHeld ?_
          refine tk3 17 38 21 262143 hHeld ?_
          refine pu 18 39 21 524287 ?_
          refine pu 19 40 21 1048575 ?_
          refine pu 20 41 21 2097151 ?_
          refine done_ (done_of HT_.out (by kernel_rfl)) ?_
          try go_wp2
          go_roundg k2
          case measure => have := HK1.out; have := HK2.out; omega
          case rel => exact ⟨(x8_2), (wrap64 (x8_2 + 1)), u0, u0, H', ⟨by have := HK1.out; have := HK2.out; omega⟩, ⟨uR HO_4.out⟩, ⟨uR HO_5.out⟩, ⟨uB⟩⟩
         ·rw [if_neg c13] at H
          replace c13 := decide_eq_false c13
          have H' := Aside0.mk H
          clear H
          obtain ⟨Ao16, co16, eo16⟩ := Kd.R_slice HO_5.out
          subst eo16
          try go_wp2
          replace HO_4 := Aside0.mk (Kd.R_drew HO_4.out)
          replace HO_5 := Aside0.mk (Kd.R_drew HO_5.out)
          replace HB := Aside0.mk (below_drew1 HB.out)
          have p822 : 0 ≤ (x8_2 : Int) := of_decide_eq_true (by first | (with_reducible assumption) | assumption)
          have q822 : x8_2 < (x5_1.length : Int) := of_decide_eq_true (by first | (with_reducible assumption) | assumption)
          obtain ⟨ad822, e822, hx822_0⟩ := Kd.at_int (Kd.R_reads' HO_5.out).2.2 x8_2 p822 q822
          cases e822
          replace p822 := eq_true p822
          replace q822 := eq_true q822
          have p823 : 0 ≤ (x8_2 : Int) := of_decide_eq_true (by first | (with_reducible assumption) | assumption)
          have q823 : x8_2 < (x5_1.length : Int) := of_decide_eq_true (by first | (with_reducible assumption) | assumption)
          obtain ⟨ad823, e823, hx823_0⟩ := Kd.at_int (Kd.R_reads' HO_5.out).2.2 x8_2 p823 q823
          obtain rfl : ad822 = ad823 := (by injection e823)
          replace p823 := eq_true p823
          replace q823 := eq_true q823
          have p824 : 0 ≤ (x7_2 : Int) := of_decide_eq_true (by first | (with_reducible assumption) | assumption)
          have q824 : x7_2 < (x5_1.length : Int) := of_decide_eq_true (by first | (with_reducible assumption) | assumption)
          obtain ⟨ad824, e824, hx824_0⟩ := Kd.at_int (Kd.R_reads' HO_5.out).2.2 x7_2 p824 q824
          obtain rfl : ad822 = ad824 := (by injection e824)
          replace p824 := eq_true p824
          replace q824 := eq_true q824
          refine start_ (n := 21) (S := fun w' => w'.cell? (ad822.add (x8_2).toNat) = some (.int .i64 (rd x5_1 x8_2)) ∧ w'.cell? (ad822.add (x8_2).toNat) = some (.int .i64 (rd x5_1 x8_2)) ∧ w'.cell? (ad822.add (x7_2).toNat) = some (.int .i64 (rd x5_1 x7_2))) (ds := []) (bl 21 0) (by kernel_rfl) rfl rfl ⟨hx822_0, hx823_0, hx824_0⟩ (fun hHeld => ?_); refine with_tabW quinariaref02_years.tab10 quinariaref02_years.bits10 (fun HT_ HW_ => ?_)
          generalize wr.drew = w17 at HO_4 HO_5 HB hx822_0 hx823_0 hx824_0 hHeld ⊢
          refine pu 0 21 21 1 ?_
          refine pu 1 22 21 3 ?_
          refine pu 2 23 21 7 ?_
          refine pu 4 25 21 23 ?_
          refine tk3 3 24 21 31 hHeld ?_
          refine pu 5 26 21 63 ?_
          refine pu 6 27 21 127 ?_
          refine pu 7 28 21 255 ?_
          refine pu 8 29 21 511 ?_
          refine pu 9 30 21 1023 ?_
          refine pu 10 31 21 2047 ?_
          refine pu 11 32 21 4095 ?_
          refine pu 12 33 21 8191 ?_
          refine pu 14 35 21 24575 ?_
          refine pu 15 36 21 57343 ?_
          refine pu 16 37 21 122879 ?_
          refine tk3 13 34 21 131071 hHeld ?_
          refine tk3 17 38 21 262143 hHeld ?_
          refine pu 18 39 21 524287 ?_
          refine pu 19 40 21 1048575 ?_
          refine pu 20 41 21 2097151 ?_
          refine done_ (done_of HT_.out (by kernel_rfl)) ?_
          try go_wp2
          go_roundg k2
          case measure => have := HK1.out; have := HK2.out; omega
          case rel => exact ⟨(x7_2), (wrap64 (x8_2 + 1)), u0, u0, H', ⟨by have := HK1.out; have := HK2.out; omega⟩, ⟨uR HO_4.out⟩, ⟨uR HO_5.out⟩, ⟨uB⟩⟩
       ·rw [if_neg c7] at H
        replace c7 := decide_eq_false c7
        have H' := Aside0.mk H
        clear H
        obtain ⟨Ao18, co18, eo18⟩ := Kd.R_slice HO_5.out
        subst eo18
        try go_wp2
        replace HO_4 := Aside0.mk (Kd.R_drew HO_4.out)
        replace HO_5 := Aside0.mk (Kd.R_drew HO_5.out)
        replace HB := Aside0.mk (below_drew1 HB.out)
        have p822 : 0 ≤ (x8_2 : Int) := of_decide_eq_true (by first | (with_reducible assumption) | assumption)
        have q822 : x8_2 < (x5_1.length : Int) := of_decide_eq_true (by first | (with_reducible assumption) | assumption)
        obtain ⟨ad822, e822, hx822_0⟩ := Kd.at_int (Kd.R_reads' HO_5.out).2.2 x8_2 p822 q822
        cases e822
        replace p822 := eq_true p822
        replace q822 := eq_true q822
        refine start_ (n := 21) (S := fun w' => w'.cell? (ad822.add (x8_2).toNat) = some (.int .i64 (rd x5_1 x8_2))) (ds := []) (bl 21 0) (by kernel_rfl) rfl rfl (hx822_0) (fun hHeld => ?_); refine with_tabW quinariaref02_years.tab10 quinariaref02_years.bits10 (fun HT_ HW_ => ?_)
        generalize wr.drew = w19 at HO_4 HO_5 HB hx822_0 hHeld ⊢
        refine pu 0 21 21 1 ?_
        refine pu 1 22 21 3 ?_
        refine pu 2 23 21 7 ?_
        refine pu 4 25 21 23 ?_
        refine tk1 3 24 21 31 hHeld ?_
        refine pu 5 26 21 63 ?_
        refine pu 6 27 21 127 ?_
        refine pd 7 28 21 255 ?_
        refine pd 8 29 21 511 ?_
        refine pd 9 30 21 1023 ?_
        refine pd 10 31 21 2047 ?_
        refine pd 11 32 21 4095 ?_
        refine pd 12 33 21 8191 ?_
        refine pd 13 34 21 16383 ?_
        refine pd 14 35 21 32767 ?_
        refine pd 15 36 21 65535 ?_
        refine pd 16 37 21 131071 ?_
        refine pd 17 38 21 262143 ?_
        refine pd 18 39 21 524287 ?_
        refine pd 19 40 21 1048575 ?_
        refine pu 20 41 21 2097151 ?_
        refine done_ (done_of HT_.out (by kernel_rfl)) ?_
        try go_wp2
        go_roundg k2
        case measure => have := HK1.out; have := HK2.out; omega
        case rel => exact ⟨(x7_2), (wrap64 (x8_2 + 1)), u0, u0, H', ⟨by have := HK1.out; have := HK2.out; omega⟩, ⟨uR HO_4.out⟩, ⟨uR HO_5.out⟩, ⟨uB⟩⟩
      ·rw [if_neg c5] at H
       replace c5 := decide_eq_false c5
       by_cases c20 : x7_2 ≥ 0
       ·rw [if_pos c20] at H
        replace c20 := decide_eq_true c20
        obtain ⟨c21, H⟩ := ifs H
        have LMc21 := Aside0.mk c21
        clear c21
        obtain ⟨y825, hy825⟩ : ∃ y_ : List Int, y_ = (x4_1 ++ [x6_1]) := ⟨_, rfl⟩
        rw [← hy825] at H
        have Ny825 := Aside0.mk hy825
        clear hy825
        obtain ⟨c22, H⟩ := ifs H
        have c22b0 := eq_true c22
        have c22b1 : decide (0 ≤ x7_2) = true := decide_eq_true c22
        clear c22
        obtain ⟨c23, H⟩ := ifs H
        have c23b0 := eq_true c23
        have c23b1 : decide (x7_2 ≤ (x5_1.length : Int)) = true := decide_eq_true c23
        clear c23
        obtain ⟨y828, hy828⟩ : ∃ y_ : List Int, y_ = (x5_1.take (x7_2 : Int).toNat) := ⟨_, rfl⟩
        rw [← hy828] at H
        have Ny828 := Aside0.mk hy828
        clear hy828
        obtain ⟨c24, H⟩ := ifs H
        have LMc24 := Aside0.mk c24
        clear c24
        obtain ⟨y832, hy832⟩ : ∃ y_ : List Int, y_ = (([] : List Int) ++ y828) := ⟨_, rfl⟩
        rw [← hy832] at H
        have Ny832 := Aside0.mk hy832
        clear hy832
        obtain ⟨ji25, hji25⟩ : ∃ j_ : Int, (wrap64 (x7_2 + 1)) = j_ := ⟨_, rfl⟩
        replace H : (if 0 ≤ (ji25) then (if (ji25) ≤ (x5_1.length : Int) then ((some (x5_1.drop ((ji25) : Int).toNat : List Int)).bind fun y835 => (if y832.length + y835.length < 17592186044416 then (quinariaref02_years.l0 k2 y825 (y832 ++ y835) (wrap64 (x6_1 - 1))) else (none))) else (none)) else (none)) = some (r1, r2) := by first | (rw [hji25] at H; exact H) | (simp only [hji25] at H ⊢; exact H)
        have hji25w : (IntKind.i64.wrap (x7_2 + 1)) = ji25 := (i64_w _).trans hji25
        obtain ⟨c26, H⟩ := ifs H
        have c26b0 := eq_true c26
        have c26b1 : decide (0 ≤ (ji25)) = true := decide_eq_true c26
        clear c26
        obtain ⟨c27, H⟩ := ifs H
        have c27b0 := eq_true c27
        have c27b1 : decide ((ji25) ≤ (x5_1.length : Int)) = true := decide_eq_true c27
        clear c27
        obtain ⟨y835, hy835⟩ : ∃ y_ : List Int, y_ = (x5_1.drop ((ji25) : Int).toNat) := ⟨_, rfl⟩
        rw [← hy835] at H
        have Ny835 := Aside0.mk hy835
        clear hy835
        obtain ⟨c28, H⟩ := ifs H
        have LMc28 := Aside0.mk c28
        clear c28
        obtain ⟨y839, hy839⟩ : ∃ y_ : List Int, y_ = (y832 ++ y835) := ⟨_, rfl⟩
        rw [← hy839] at H
        have Ny839 := Aside0.mk hy839
        clear hy839
        have H' := Aside0.mk H
        clear H
        obtain ⟨Ao29, co29, eo29⟩ := Kd.R_slice HO_5.out
        subst eo29
        try go_wp2_with (first | ((with_reducible refine gate_builtin (b := .append) (xs := #[.tmp 45, .tmp 47]) rfl ?_); at_builtin; refine Kd.R_append (Kd.int .i64) (w0 := w) w.heap.size rfl (.tmp 45) (.tmp 47) 22 3 (.int .i64 0) 8 rfl Tryz.underlying22 info3 rfl (by decide) (by omega) u4 x4_1 x6_1 [.int .i64 x6_1] (fun k_ => some k_ ≠ (.slice Ao29 x5_1.length co29 : Value).ownBlock) (fun _ => False) rfl rfl ?aP (fun _ hk => hk.elim) ?aF ?aO ?aB ?aS ?aL ?_; (case aP => exact rfl); (case aB => exact uB); (case aF => exact (fun k_ hk => Kd.fresh' (Kd.R_lt (uR HO_5.out)) k_ hk)); (case aO => exact (uR HO_4.out)); (case aS => exact (below_size uB)); (case aL => have := LMc21.out; omega); intro v826 w30 ho hb hg hat; rw [← Ny825.out] at ho; replace HO_5 := Aside0.mk (Kd.R_after (ok := (fun _ => True)) (by refine uR ?_; exact Kd.R_mono HO_5.out (fun _ hk => ⟨trivial, hk⟩)) hg hat); have HO827 := Aside0.mk (ho); replace HB := Aside0.mk (hb); clear HO_4; clear ho hb hg hat))
        replace HO_5 := Aside0.mk (Kd.R_drew HO_5.out)
        replace HO827 := Aside0.mk (Kd.R_drew HO827.out)
        replace HB := Aside0.mk (below_drew1 HB.out)
        have q32 : (x7_2 : Int) ≤ ((x5_1.length : Int) : Int) := of_decide_eq_true (by first | (with_reducible assumption) | assumption)
        obtain ⟨i032, hi032, _, hsz32, _⟩ := info_parts info3
        have hroom32 : x5_1.length ≤ co29 := (Kd.R_reads' HO_5.out).2.1
        have hC32 : Kd.C (Kd.int .i64) _ Ao29 x5_1.length x5_1 := (Kd.R_reads' HO_5.out).2.2
        have hcut32 := cut_to (P := Tryz.prog) 22 3 .i64 Tryz.underlying22 hi032 Ao29 x5_1.length co29 x7_2 (of_decide_eq_true (by first | (with_reducible assumption) | assumption)) q32 hroom32
        have hr32 := Kd.C_take (m := (x7_2 : Int).toNat) hC32 (by omega)
        have hy32 : y828.length = (x7_2 : Int).toNat := (by rw [Ny828.out, List.length_take]; omega)
        rw [← Ny828.out] at hr32
        rw [← hy32] at hcut32
        have HR831 := Aside0.mk hr32
        have HC831 := Aside0.mk (show y828.length ≤ co29 from by omega)
        clear hr32 hC32 hroom32 hi032 hsz32
        have KY32 := Aside0.mk hy32
        clear hy32
        have KL32 := Aside0.mk (show (x7_2 : Int).toNat ≤ x5_1.length from by omega)
        replace q32 := eq_true q32
        have q33 : ((ji25) : Int) ≤ ((x5_1.length : Int) : Int) := of_decide_eq_true (by first | (with_reducible assumption) | assumption)
        obtain ⟨i033, hi033, _, hsz33, _⟩ := info_parts info3
        have hroom33 : x5_1.length ≤ co29 := (Kd.R_reads' HO_5.out).2.1
        have hC33 : Kd.C (Kd.int .i64) _ Ao29 x5_1.length x5_1 := (Kd.R_reads' HO_5.out).2.2
        have q033 : (0 : Int) ≤ ((ji25) : Int) := of_decide_eq_true (by first | (with_reducible assumption) | assumption)
        have hcut33 := cut_from (P := Tryz.prog) 22 3 .i64 Tryz.underlying22 hi033 1 hsz33 Ao29 x5_1.length co29 (ji25) q033 q33
        have hr33 := Kd.C_drop (m := ((ji25) : Int).toNat) (c := co29) hC33 (by omega) hroom33
        obtain ⟨A33, hA33⟩ : ∃ A1, A1 = (if co29 = ((ji25) : Int).toNat then Ao29 else (Ao29 : Option Addr).map (·.add (((ji25) : Int).toNat * 1))) := ⟨_, rfl⟩
        obtain ⟨c33, hc33⟩ : ∃ c1, c1 = co29 - ((ji25) : Int).toNat := ⟨_, rfl⟩
        have hy33 : y835.length = x5_1.length - ((ji25) : Int).toNat := (by rw [Ny835.out, List.length_drop] <;> omega)
        rw [show (x5_1).drop ((ji25) : Int).toNat = y835 from Ny835.out.symm] at hr33
        replace hr33 : Kd.C (Kd.int .i64) _ A33 y835.length y835 := (by rw [hA33]; exact hr33)
        rw [← hy33, ← hA33, ← hc33] at hcut33
        have HR838 := Aside0.mk hr33
        have HC838 := Aside0.mk (show y835.length ≤ c33 from by rw [hy33, hc33]; exact Nat.sub_le_sub_right hroom33 _)
        clear hr33 hC33 hroom33 hi033 hsz33 hc33
        have KY33 := Aside0.mk hy33
        have KA33 := Aside0.mk hA33
        clear hy33 hA33
        have KL33 := Aside0.mk (show ((ji25) : Int).toNat ≤ x5_1.length from by omega)
        replace q33 := eq_true q33
        refine start_ (n := 10) (S := fun w' => True) (ds := []) (bl 10 0) (by kernel_rfl) rfl rfl trivial (fun hHeld => ?_); refine with_tabW quinariaref02_years.tab14 quinariaref02_years.bits14 (fun HT_ HW_ => ?_)
        generalize w30.drew = w31 at HO_5 HO827 HB HR831 HR838 hHeld ⊢
        refine pu 0 49 10 1 ?_
        refine pu 1 50 10 3 ?_
        refine pu 2 51 10 7 ?_
        refine pu 4 53 10 23 ?_
        refine pu 5 54 10 55 ?_
        refine pu 6 55 10 119 ?_
        refine pu 7 56 10 247 ?_
        refine one_ (i := 3) (N := some 52) (bl 10 255) rfl rfl (one_of HT_.out (by kernel_rfl)) (by decide) (fun K hK => ?_)
        refine Kd.R_append_rows_step (Kd.int .i64) (w0 := w) w.heap.size rfl (.const (.slice none 0 0)) (.tmp 51) 22 3 (.int .i64 0) 8 rfl Tryz.underlying22 info3 rfl (by decide) (by omega) (.slice none 0 0) ([] : List Int) y828 _ _ _ (fun k_ => some k_ ≠ (.slice Ao29 x5_1.length co29 : Value).ownBlock ∧ some k_ ≠ (v826 : Value).ownBlock) (fun _ => False) rfl rfl ?aO ?aR (fun _ _ h => h) (fun _ h => h.elim) ?aF ?aB ?aS ?aL ?_
        (case aR => repeat (first | exact (by repeat (first | (with_reducible exact HR831.out) | (with_reducible refine Kd.C_alloc ?_ _) | (with_reducible refine Kd.C_drewN ?_ _) | (with_reducible refine Kd.C_drew ?_) | exact HR831.out)) | (with_reducible refine Kd.C_alloc ?_ _) | (with_reducible refine Kd.C_drewN ?_ _) | (with_reducible refine Kd.C_drew ?_)))
        (case aB => exact uB)
        (case aF => exact (fun k_ hk => ⟨Kd.fresh' (Kd.R_lt (uR HO_5.out)) k_ hk, Kd.fresh' (Kd.R_lt (uR HO827.out)) k_ hk⟩))
        (case aO => exact ((Kd.R_nil _ _ _ _ (fun k_ => some k_ ≠ (.slice Ao29 x5_1.length co29 : Value).ownBlock ∧ some k_ ≠ (v826 : Value).ownBlock))))
        (case aS => exact (below_size uB))
        (case aL => have := LMc24.out; omega)
        intro v833 w34 ho hb hg hat
        rw [← Ny832.out] at ho
        have n0_ := Aside0.mk (Kd.R_after (Kd.R_apart_nil (uR HO_5.out)) hg hat)
        have n1_ := Aside0.mk (Kd.R_after (Kd.R_apart_nil (uR HO827.out)) hg hat)
        have n2_ := Aside0.mk (hb)
        have n3_ := Aside0.mk ((show Kd.C (Kd.int .i64) w34 Ao29 y828.length y828 from by rw [Ny828.out]; exact Kd.C_take (m := (x7_2 : Int).toNat) ((Kd.R_reads' (Kd.R_after (Kd.R_apart_nil (uR HO_5.out)) hg hat)).2.2) KL32.out))
        have n4_ := Aside0.mk ((show Kd.C (Kd.int .i64) w34 A33 y835.length y835 from by rw [Ny835.out, KA33.out]; exact Kd.C_drop (m := ((ji25) : Int).toNat) (c := co29) ((Kd.R_reads' (Kd.R_after (Kd.R_apart_nil (uR HO_5.out)) hg hat)).2.2) KL33.out ((Kd.R_reads' (Kd.R_after (Kd.R_apart_nil (uR HO_5.out)) hg hat)).2.1)))
        have n5_ := Aside0.mk (ho)
        clear HO_5 HO827 HB HR831 HR838
        have HO_5 := n0_
        have HO827 := n1_
        have HB := n2_
        have HR831 := n3_
        have HR838 := n4_
        have HO834 := n5_
        clear n0_ n1_ n2_ n3_ n4_ n5_
        clear ho hb hg hat
        refine hK.out _ _ trivial (fun hHeld => ?_)
        clear hK K
        refine nm ?_
        refine one_ (i := 8) (N := some 57) (bl 10 511) rfl rfl (one_of HT_.out (by kernel_rfl)) (by decide) (fun K hK => ?_)
        refine Kd.R_append_rows_step (Kd.int .i64) (w0 := w) w.heap.size (by rfl) (.tmp 52) (.tmp 56) 22 3 (.int .i64 0) 8 rfl Tryz.underlying22 info3 rfl (by decide) (by omega) v833 y832 y835 _ _ _ (fun k_ => some k_ ≠ (.slice Ao29 x5_1.length co29 : Value).ownBlock ∧ some k_ ≠ (v826 : Value).ownBlock) (fun _ => False) rfl rfl ?aO ?aR (fun _ _ h => h) (fun _ h => h.elim) ?aF ?aB ?aS ?aL ?_
        (case aR => repeat (first | exact (by repeat (first | (with_reducible exact HR838.out) | (with_reducible refine Kd.C_alloc ?_ _) | (with_reducible refine Kd.C_drewN ?_ _) | (with_reducible refine Kd.C_drew ?_) | exact HR838.out)) | (with_reducible refine Kd.C_alloc ?_ _) | (with_reducible refine Kd.C_drewN ?_ _) | (with_reducible refine Kd.C_drew ?_)))
        (case aB => exact uB)
        (case aF => exact (fun k_ hk => ⟨Kd.fresh' (Kd.R_lt (uR HO_5.out)) k_ hk, Kd.fresh' (Kd.R_lt (uR HO827.out)) k_ hk⟩))
        (case aO => exact (uR HO834.out))
        (case aS => exact (below_size uB))
        (case aL => have := LMc28.out; omega)
        intro v840 w35 ho hb hg hat
        rw [← Ny839.out] at ho
        have n0_ := Aside0.mk (Kd.R_after (ok := (fun k_ => some k_ ≠ (v826 : Value).ownBlock)) (by refine uR ?_; exact Kd.R_mono HO_5.out (fun _ hk => ⟨hk.1.2, hk.2⟩)) hg hat)
        have n1_ := Aside0.mk (Kd.R_after (ok := (fun k_ => some k_ ≠ (.slice Ao29 x5_1.length co29 : Value).ownBlock)) (uR HO827.out) hg hat)
        have n2_ := Aside0.mk (hb)
        have n3_ := Aside0.mk ((show Kd.C (Kd.int .i64) w35 Ao29 y828.length y828 from by rw [Ny828.out]; exact Kd.C_take (m := (x7_2 : Int).toNat) ((Kd.R_reads' (Kd.R_after (ok := (fun k_ => some k_ ≠ (v826 : Value).ownBlock)) (by refine uR ?_; exact Kd.R_mono HO_5.out (fun _ hk => ⟨hk.1.2, hk.2⟩)) hg hat)).2.2) KL32.out))
        have n4_ := Aside0.mk ((show Kd.C (Kd.int .i64) w35 A33 y835.length y835 from by rw [Ny835.out, KA33.out]; exact Kd.C_drop (m := ((ji25) : Int).toNat) (c := co29) ((Kd.R_reads' (Kd.R_after (ok := (fun k_ => some k_ ≠ (v826 : Value).ownBlock)) (by refine uR ?_; exact Kd.R_mono HO_5.out (fun _ hk => ⟨hk.1.2, hk.2⟩)) hg hat)).2.2) KL33.out ((Kd.R_reads' (Kd.R_after (ok := (fun k_ => some k_ ≠ (v826 : Value).ownBlock)) (by refine uR ?_; exact Kd.R_mono HO_5.out (fun _ hk => ⟨hk.1.2, hk.2⟩)) hg hat)).2.1)))
        have n5_ := Aside0.mk (ho)
        clear HO_5 HO827 HB HR831 HR838 HO834
        have HO_5 := n0_
        have HO827 := n1_
        have HB := n2_
        have HR831 := n3_
        have HR838 := n4_
        have HO841 := n5_
        clear n0_ n1_ n2_ n3_ n4_ n5_
        clear ho hb hg hat
        refine hK.out _ _ trivial (fun hHeld => ?_)
        clear hK K
        refine nm ?_
        refine pu 9 5 10 1023 ?_
        refine done_ (done_of HT_.out (by kernel_rfl)) ?_
        try go_wp2
        go_roundg k2
        case measure => have := HK1.out; have := HK2.out; omega
        case rel => exact ⟨(y825), (y839), (wrap64 (x6_1 - 1)), u0, H', ⟨by have := HK1.out; have := HK2.out; omega⟩, ⟨by refine uR ?_; exact Kd.R_mono HO827.out (fun _ hk => hk.2)⟩, ⟨by refine uR ?_; exact Kd.R_mono HO841.out (fun _ hk => hk.2)⟩, ⟨uB⟩⟩
       ·rw [if_neg c20] at H
        replace c20 := decide_eq_false c20
        have H' := Aside0.mk H
        clear H
        obtain ⟨Ao36, co36, eo36⟩ := Kd.R_slice HO_5.out
        subst eo36
        go_wp2
        go_roundg k2
        case measure => have := HK1.out; have := HK2.out; omega
        case rel => exact ⟨(x4_1), (x5_1), (wrap64 (x6_1 - 1)), u0, H', ⟨by have := HK1.out; have := HK2.out; omega⟩, ⟨uR HO_4.out⟩, ⟨uR HO_5.out⟩, ⟨uB⟩⟩
   ·rw [if_neg c4] at H
    replace c4 := decide_eq_false c4
    simp only [Option.some.injEq, Prod.mk.injEq] at H
    obtain ⟨rfl, rfl⟩ := H
    obtain ⟨Ao37, co37, eo37⟩ := Kd.R_slice HO_5.out
    subst eo37
    go_wp2
    go_ret2
    exact ⟨_, uE, by refine uR ?_; exact Kd.R_mono HO_4.out (fun _ hk => trivial), uB⟩
end Go.Proofs.YtdmdahafiiggiaaGreatDoor.K
end
section
namespace Go.Proofs.YtdmdahafiiggiaaGreatDoor.K
open Go.RowKit Go.Proofs.YtdmdahafiiggiaaGreatDoorW.PrintWords Go.Proofs.YtdmdahafiiggiaaGreatDoorW.PrintLast Go.Proofs.YtdmdahafiiggiaaGreatDoorW.PrintMore
attribute [local go_sem] max2_int min2_int max_two min_two max_three min_three max_four min_four
set_option linter.unusedVariables false
set_option linter.unusedSimpArgs false
mutual
def quinariaref02_fills.l0 : Nat → List Int → List Int → Int → Option (Bool)
 | 0, _, _, _ => none
 | k + 1, x0, x1, x5 => if x5 ≤ 40 then (quinariaref02_fills.l1 k x0 x1 x5 0 0 0) else (some true)
def quinariaref02_fills.l1 : Nat → List Int → List Int → Int → Int → Int → Int → Option (Bool)
 | 0, _, _, _, _, _, _ => none
 | k + 1, x0, x1, x5, x6, x7, x8 => if x8 < (x0.length : Int) then (if 0 ≤ x8 then (if (rd x0 x8) ≤ x5 then (if x8 < (x1.length : Int) then (if (rd x1 x8) ≤ x5 then (quinariaref02_fills.l1 k x0 x1 x5 (wrap64 (x6 + 1)) (wrap64 (x7 + 1)) (wrap64 (x8 + 1))) else (quinariaref02_fills.l1 k x0 x1 x5 (wrap64 (x6 + 1)) x7 (wrap64 (x8 + 1)))) else (none)) else (if x8 < (x1.length : Int) then (if (rd x1 x8) ≤ x5 then (quinariaref02_fills.l1 k x0 x1 x5 x6 (wrap64 (x7 + 1)) (wrap64 (x8 + 1))) else (quinariaref02_fills.l1 k x0 x1 x5 x6 x7 (wrap64 (x8 + 1)))) else (none))) else (none)) else (if x6 > x7 then (some false) else (quinariaref02_fills.l0 k x0 x1 (wrap64 (x5 + 1))))
end
def quinariaref02_fills.f (k : Nat) (l0 : List Int) (l1 : List Int) : Option (Bool) := if (l0.length : Int) = (l1.length : Int) then (quinariaref02_fills.l0 k l0 l1 0) else (some false)
set_option maxHeartbeats 8000000 in
set_option maxRecDepth 100000 in
theorem quinariaref02_fills.calls (k : Nat) (A0 : Option Addr) (c0 : Nat) (l0 : List Int) (A1 : Option Addr) (c1 : Nat) (l1 : List Int) (r : Bool) (w : World) (hr0 : Kd.C (Kd.int .i64) w A0 l0.length l0) (hc0 : l0.length ≤ c0) (hr1 : Kd.C (Kd.int .i64) w A1 l1.length l1) (hc1 : l1.length ≤ c1) (h : quinariaref02_fills.f k l0 l1 = some r) :
  Calls Tryz.prog 77 #[.slice A0 l0.length c0, .slice A1 l1.length c1] w fun e w' => e = .returned (.bool r) ∧ Drawn0 w w' := by
 have HR0 := Aside0.mk hr0
 have HC0 := Aside0.mk hc0
 clear hr0 hc0
 have HR1 := Aside0.mk hr1
 have HC1 := Aside0.mk hc1
 clear hr1 hc1
 have H : (if (l0.length : Int) = (l1.length : Int) then (quinariaref02_fills.l0 k l0 l1 0) else (some false)) = some r := h
 clear h
 by_cases c3 : (l0.length : Int) = (l1.length : Int)
 ·rw [if_pos c3] at H
  have c3b0 : ((l0.length : Int) == (l1.length : Int)) = true := beq_iff_eq.mpr c3
  have c3b1 : ((l0.length : Int) != (l1.length : Int)) = false := bne_eq_false_iff_eq.mpr c3
  have c3b2 : (l0.length == l1.length) = true := by first | simpa using c3 | (simp at c3 ⊢; omega)
  clear c3
  have H' := Aside0.mk H
  clear H
  go_enter Tryz.func77, Tryz.ntmps77
  go_wp2
  go_loopg [5] k (fun kq v5 w' => ∃ (x5_1 : Int), v5 = .int .i64 x5_1 ∧ Aside0 (quinariaref02_fills.l0 kq l0 l1 x5_1 = some r) ∧ Aside0 (kq ≤ k) ∧ Drawn0 w w')
  case atStart => exact ⟨(0), u0, H', ⟨Nat.le_refl _⟩, by repeat (first | exact Drawn0.refl _ | apply Drawn0.step)⟩
  case round =>
   clear H'
   obtain ⟨x5_1, rfl, HA, HK1, ⟨m1, rfl⟩⟩ := hrel
   cases gk with
   | zero => exact absurd HA.out (by simp [quinariaref02_fills.l0])
   | succ k1 =>
    have H := HA.out
    clear HA
    simp only [quinariaref02_fills.l0] at H
    by_cases c4 : x5_1 ≤ 40
    ·rw [if_pos c4] at H
     replace c4 := decide_eq_true c4
     have H' := Aside0.mk H
     clear H
     go_wp2
     go_loopg [6, 7, 8] k1 (fun kq v6 v7 v8 w' => ∃ (x6_2 : Int) (x7_2 : Int) (x8_2 : Int), v6 = .int .i64 x6_2 ∧ v7 = .int .i64 x7_2 ∧ v8 = .int .i64 x8_2 ∧ Aside0 (quinariaref02_fills.l1 kq l0 l1 x5_1 x6_2 x7_2 x8_2 = some r) ∧ Aside0 (kq ≤ k1) ∧ Drawn0 w w')
     case atStart => exact ⟨(0), (0), (0), u0, u0, u0, H', ⟨Nat.le_refl _⟩, by repeat (first | exact Drawn0.refl _ | apply Drawn0.step)⟩
     case round =>
      clear H'
      obtain ⟨x6_2, x7_2, x8_2, rfl, rfl, rfl, HA, HK2, ⟨m2, rfl⟩⟩ := hrel
      cases gk with
      | zero => exact absurd HA.out (by simp [quinariaref02_fills.l1])
      | succ k2 =>
       have H := HA.out
       clear HA
       simp only [quinariaref02_fills.l1] at H
       by_cases c5 : x8_2 < (l0.length : Int)
       ·rw [if_pos c5] at H
        replace c5 := decide_eq_true c5
        obtain ⟨c6, H⟩ := ifs H
        replace c6 := decide_eq_true c6
        by_cases c7 : (rd l0 x8_2) ≤ x5_1
        ·rw [if_pos c7] at H
         replace c7 := decide_eq_true c7
         obtain ⟨c8, H⟩ := ifs H
         replace c8 := decide_eq_true c8
         by_cases c9 : (rd l1 x8_2) ≤ x5_1
         ·rw [if_pos c9] at H
          replace c9 := decide_eq_true c9
          have H' := Aside0.mk H
          clear H
          have p842 : 0 ≤ (x8_2 : Int) := of_decide_eq_true (by first | (with_reducible assumption) | assumption)
          have q842 : x8_2 < (l0.length : Int) := of_decide_eq_true (by first | (with_reducible assumption) | assumption)
          obtain ⟨ad842, e842, hx842_0⟩ := Kd.at_int HR0.out x8_2 p842 q842
          cases e842
          replace p842 := eq_true p842
          replace q842 := eq_true q842
          have p843 : 0 ≤ (x8_2 : Int) := of_decide_eq_true (by first | (with_reducible assumption) | assumption)
          have q843 : x8_2 < (l1.length : Int) := of_decide_eq_true (by first | (with_reducible assumption) | assumption)
          obtain ⟨ad843, e843, hx843_0⟩ := Kd.at_int HR1.out x8_2 p843 q843
          cases e843
          replace p843 := eq_true p843
          replace q843 := eq_true q843
          go_wp2
          go_roundg k2
          case measure => have := HK1.out; have := HK2.out; omega
          case rel => exact ⟨(wrap64 (x6_2 + 1)), (wrap64 (x7_2 + 1)), (wrap64 (x8_2 + 1)), u0, u0, u0, H', ⟨by have := HK1.out; have := HK2.out; omega⟩, by repeat (first | exact Drawn0.refl _ | apply Drawn0.step)⟩
         ·rw [if_neg c9] at H
          replace c9 := decide_eq_false c9
          have H' := Aside0.mk H
          clear H
          have p842 : 0 ≤ (x8_2 : Int) := of_decide_eq_true (by first | (with_reducible assumption) | assumption)
          have q842 : x8_2 < (l0.length : Int) := of_decide_eq_true (by first | (with_reducible assumption) | assumption)
          obtain ⟨ad842, e842, hx842_0⟩ := Kd.at_int HR0.out x8_2 p842 q842
          cases e842
          replace p842 := eq_true p842
          replace q842 := eq_true q842
          have p843 : 0 ≤ (x8_2 : Int) := of_decide_eq_true (by first | (with_reducible assumption) | assumption)
          have q843 : x8_2 < (l1.length : Int) := of_decide_eq_true (by first | (with_reducible assumption) | assumption)
          obtain ⟨ad843, e843, hx843_0⟩ := Kd.at_int HR1.out x8_2 p843 q843
          cases e843
          replace p843 := eq_true p843
          replace q843 := eq_true q843
          go_wp2
          go_roundg k2
          case measure => have := HK1.out; have := HK2.out; omega
          case rel => exact ⟨(wrap64 (x6_2 + 1)), (x7_2), (wrap64 (x8_2 + 1)), u0, u0, u0, H', ⟨by have := HK1.out; have := HK2.out; omega⟩, by repeat (first | exact Drawn0.refl _ | apply Drawn0.step)⟩
        ·rw [if_neg c7] at H
         replace c7 := decide_eq_false c7
         obtain ⟨c10, H⟩ := ifs H
         replace c10 := decide_eq_true c10
         by_cases c11 : (rd l1 x8_2) ≤ x5_1
         ·rw [if_pos c11] at H
          replace c11 := decide_eq_true c11
          have H' := Aside0.mk H
          clear H
          have p842 : 0 ≤ (x8_2 : Int) := of_decide_eq_true (by first | (with_reducible assumption) | assumption)
          have q842 : x8_2 < (l0.length : Int) := of_decide_eq_true (by first | (with_reducible assumption) | assumption)
          obtain ⟨ad842, e842, hx842_0⟩ := Kd.at_int HR0.out x8_2 p842 q842
          cases e842
          replace p842 := eq_true p842
          replace q842 := eq_true q842
          have p844 : 0 ≤ (x8_2 : Int) := of_decide_eq_true (by first | (with_reducible assumption) | assumption)
          have q844 : x8_2 < (l1.length : Int) := of_decide_eq_true (by first | (with_reducible assumption) | assumption)
          obtain ⟨ad844, e844, hx844_0⟩ := Kd.at_int HR1.out x8_2 p844 q844
          cases e844
          replace p844 := eq_true p844
          replace q844 := eq_true q844
          go_wp2
          go_roundg k2
          case measure => have := HK1.out; have := HK2.out; omega
          case rel => exact ⟨(x6_2), (wrap64 (x7_2 + 1)), (wrap64 (x8_2 + 1)), u0, u0, u0, H', ⟨by have := HK1.out; have := HK2.out; omega⟩, by repeat (first | exact Drawn0.refl _ | apply Drawn0.step)⟩
         ·rw [if_neg c11] at H
          replace c11 := decide_eq_false c11
          have H' := Aside0.mk H
          clear H
          have p842 : 0 ≤ (x8_2 : Int) := of_decide_eq_true (by first | (with_reducible assumption) | assumption)
          have q842 : x8_2 < (l0.length : Int) := of_decide_eq_true (by first | (with_reducible assumption) | assumption)
          obtain ⟨ad842, e842, hx842_0⟩ := Kd.at_int HR0.out x8_2 p842 q842
          cases e842
          replace p842 := eq_true p842
          replace q842 := eq_true q842
          have p844 : 0 ≤ (x8_2 : Int) := of_decide_eq_true (by first | (with_reducible assumption) | assumption)
          have q844 : x8_2 < (l1.length : Int) := of_decide_eq_true (by first | (with_reducible assumption) | assumption)
          obtain ⟨ad844, e844, hx844_0⟩ := Kd.at_int HR1.out x8_2 p844 q844
          cases e844
          replace p844 := eq_true p844
          replace q844 := eq_true q844
          go_wp2
          go_roundg k2
          case measure => have := HK1.out; have := HK2.out; omega
          case rel => exact ⟨(x6_2), (x7_2), (wrap64 (x8_2 + 1)), u0, u0, u0, H', ⟨by have := HK1.out; have := HK2.out; omega⟩, by repeat (first | exact Drawn0.refl _ | apply Drawn0.step)⟩
       ·rw [if_neg c5] at H
        replace c5 := decide_eq_false c5
        by_cases c12 : x6_2 > x7_2
        ·rw [if_pos c12] at H
         replace c12 := decide_eq_true c12
         obtain rfl := Option.some.inj H
         go_wp2
         go_ret
         exact ⟨u0, by repeat (first | exact Drawn0.refl _ | apply Drawn0.step)⟩
        ·rw [if_neg c12] at H
         replace c12 := decide_eq_false c12
         have H' := Aside0.mk H
         clear H
         go_wp2
         go_roundg k2
         case measure => have := HK1.out; have := HK2.out; omega
         case rel => exact ⟨(wrap64 (x5_1 + 1)), u0, H', ⟨by have := HK1.out; have := HK2.out; omega⟩, by repeat (first | exact Drawn0.refl _ | apply Drawn0.step)⟩
    ·rw [if_neg c4] at H
     replace c4 := decide_eq_false c4
     obtain rfl := Option.some.inj H
     go_wp2
     go_ret
     exact ⟨u0, by repeat (first | exact Drawn0.refl _ | apply Drawn0.step)⟩
 ·rw [if_neg c3] at H
  have c3b0 : ((l0.length : Int) == (l1.length : Int)) = false := beq_eq_false_iff_ne.mpr c3
  have c3b1 : ((l0.length : Int) != (l1.length : Int)) = true := bne_iff_ne.mpr c3
  have c3b2 : (l0.length == l1.length) = false := by first | simpa using c3 | (simp at c3 ⊢; omega)
  obtain rfl := Option.some.inj H
  go_enter Tryz.func77, Tryz.ntmps77
  go_wp2
  go_ret
  exact ⟨u0, by repeat (first | exact Drawn0.refl _ | apply Drawn0.step)⟩
end Go.Proofs.YtdmdahafiiggiaaGreatDoor.K
end
section
namespace Go.Proofs.YtdmdahafiiggiaaGreatDoor.K
open Go.RowKit Go.Proofs.YtdmdahafiiggiaaGreatDoorW.PrintWords Go.Proofs.YtdmdahafiiggiaaGreatDoorW.PrintLast Go.Proofs.YtdmdahafiiggiaaGreatDoorW.PrintMore
attribute [local go_sem] max2_int min2_int max_two min_two max_three min_three max_four min_four
set_option linter.unusedVariables false
set_option linter.unusedSimpArgs false
def quinariaref02_without.f (l0 : List Int) (a1 : Int) : Option (List Int) := if 0 ≤ a1 then (if a1 ≤ (l0.length : Int) then (if ([] : List Int).length + (l0.take (a1 : Int).toNat).length < 17592186044416 then ((some (([] : List Int) ++ (l0.take (a1 : Int).toNat) : List Int)).bind fun y846 => (if 0 ≤ (wrap64 (a1 + 1)) then (if (wrap64 (a1 + 1)) ≤ (l0.length : Int) then (if y846.length + (l0.drop ((wrap64 (a1 + 1)) : Int).toNat).length < 17592186044416 then (some (y846 ++ (l0.drop ((wrap64 (a1 + 1)) : Int).toNat))) else (none)) else (none)) else (none))) else (none)) else (none)) else (none)
def quinariaref02_without.T1 : Bool × List (List Nat × List Nat) := (true, [([], []), ([], []), ([0, 1], [0, 1]), ([2], [2]), ([], []), ([], []), ([5], [5]), ([4, 6], [4, 6]), ([3, 7, 3], [3, 7]), ([8, 8, 0, 1, 2, 3, 4, 5, 6, 7, 8], [8])])
def quinariaref02_without.B1 : List Nat := [0, 0, 3, 7, 0, 0, 32, 112, 255, 511]
theorem quinariaref02_without.tab1 : rtab .any (opsOf Tryz.f78 1) = quinariaref02_without.T1 := by kernel_rfl
theorem quinariaref02_without.bits1 : waitsOk quinariaref02_without.T1.2 quinariaref02_without.B1 = true := by kernel_rfl
set_option maxHeartbeats 8000000 in
set_option maxRecDepth 100000 in
theorem quinariaref02_without.calls (A0 : Option Addr) (c0 : Nat) (l0 : List Int) (a1 : Int) (r : List Int) (w : World) (hr0 : Kd.C (Kd.int .i64) w A0 l0.length l0) (hc0 : l0.length ≤ c0) (h : quinariaref02_without.f l0 a1 = some r) :
  Calls Tryz.prog 78 #[.slice A0 l0.length c0, .int .i64 a1] w fun e w' => ∃ v0_ : Value, e = .returned (v0_) ∧ Kd.R (Kd.int .i64) 3 w' w.heap.size (fun _ => True) v0_ r ∧ Below w.heap.size w w' := by
 have HR0 := Aside0.mk hr0
 have HC0 := Aside0.mk hc0
 clear hr0 hc0
 have HB := Aside0.mk (Below.refl w.heap.size w)
 have H : (if 0 ≤ a1 then (if a1 ≤ (l0.length : Int) then (if ([] : List Int).length + (l0.take (a1 : Int).toNat).length < 17592186044416 then ((some (([] : List Int) ++ (l0.take (a1 : Int).toNat) : List Int)).bind fun y846 => (if 0 ≤ (wrap64 (a1 + 1)) then (if (wrap64 (a1 + 1)) ≤ (l0.length : Int) then (if y846.length + (l0.drop ((wrap64 (a1 + 1)) : Int).toNat).length < 17592186044416 then (some (y846 ++ (l0.drop ((wrap64 (a1 + 1)) : Int).toNat))) else (none)) else (none)) else (none))) else (none)) else (none)) else (none)) = some r := h
 clear h
 obtain ⟨c3, H⟩ := ifs H
 have c3b0 := eq_true c3
 have c3b1 : decide (0 ≤ a1) = true := decide_eq_true c3
 clear c3
 obtain ⟨c4, H⟩ := ifs H
 have c4b0 := eq_true c4
 have c4b1 : decide (a1 ≤ (l0.length : Int)) = true := decide_eq_true c4
 clear c4
 obtain ⟨c5, H⟩ := ifs H
 have LMc5 := Aside0.mk c5
 clear c5
 obtain ⟨y846, hy846⟩ : ∃ y_ : List Int, y_ = (([] : List Int) ++ (l0.take (a1 : Int).toNat)) := ⟨_, rfl⟩
 rw [← hy846] at H
 have Ny846 := Aside0.mk hy846
 clear hy846
 obtain ⟨ji6, hji6⟩ : ∃ j_ : Int, (wrap64 (a1 + 1)) = j_ := ⟨_, rfl⟩
 replace H : (if 0 ≤ (ji6) then (if (ji6) ≤ (l0.length : Int) then (if y846.length + (l0.drop ((ji6) : Int).toNat).length < 17592186044416 then (some (y846 ++ (l0.drop ((ji6) : Int).toNat))) else (none)) else (none)) else (none)) = some r := by first | (rw [hji6] at H; exact H) | (simp only [hji6] at H ⊢; exact H)
 have hji6w : (IntKind.i64.wrap (a1 + 1)) = ji6 := (i64_w _).trans hji6
 obtain ⟨c7, H⟩ := ifs H
 have c7b0 := eq_true c7
 have c7b1 : decide (0 ≤ (ji6)) = true := decide_eq_true c7
 clear c7
 obtain ⟨c8, H⟩ := ifs H
 have c8b0 := eq_true c8
 have c8b1 : decide ((ji6) ≤ (l0.length : Int)) = true := decide_eq_true c8
 clear c8
 obtain ⟨c9, H⟩ := ifs H
 have LMc9 := Aside0.mk c9
 clear c9
 obtain ⟨y850, hy850⟩ : ∃ y_ : List Int, y_ = (y846 ++ (l0.drop ((ji6) : Int).toNat)) := ⟨_, rfl⟩
 rw [← hy850] at H
 have Ny850 := Aside0.mk hy850
 clear hy850
 obtain rfl := Option.some.inj H
 go_enter Tryz.func78, Tryz.ntmps78
 try go_wp2
 replace HB := Aside0.mk (below_drew1 HB.out)
 obtain ⟨i011, hi011, _, hsz11, _⟩ := info_parts info3
 obtain ⟨hcut11, hA11, hC11⟩ := print_take_of (P := Tryz.prog) (Value.int .i64) 0 22 3 .i64 Tryz.underlying22 hi011 hsz11 A0 c0 l0 a1 (of_decide_eq_true (by first | (with_reducible assumption) | assumption)) (of_decide_eq_true (by first | (with_reducible assumption) | assumption)) HC0.out
 have HR845 := Aside0.mk (Kd.C_of_reads (h1 := fun _ => rfl) (hA11 _ (Kd.reads_of_C HR0.out)))
 have HC845 := Aside0.mk hC11
 clear hA11 hC11 hi011 hsz11
 obtain ⟨i012, hi012, _, hsz12, _⟩ := info_parts info3
 obtain ⟨A12, hcut12, hA12, hC12⟩ := print_drop_of (P := Tryz.prog) (Value.int .i64) 0 22 3 .i64 Tryz.underlying22 hi012 hsz12 A0 c0 l0 (ji6) (of_decide_eq_true (by first | (with_reducible assumption) | assumption)) (of_decide_eq_true (by first | (with_reducible assumption) | assumption)) HC0.out
 have HR849 := Aside0.mk (Kd.C_of_reads (h1 := fun _ => rfl) (hA12 _ (Kd.reads_of_C HR0.out)))
 have HC849 := Aside0.mk hC12
 clear hA12 hC12 hi012 hsz12
 refine start_ (n := 10) (S := fun w' => True) (ds := []) (bl 10 0) (by kernel_rfl) rfl rfl trivial (fun hHeld => ?_); refine with_tabW quinariaref02_without.tab1 quinariaref02_without.bits1 (fun HT_ HW_ => ?_)
 generalize w.drew = w10 at HB HR845 HR849 hHeld ⊢
 refine pu 0 5 10 1 ?_
 refine pu 1 6 10 3 ?_
 refine pu 2 7 10 7 ?_
 refine pu 4 9 10 23 ?_
 refine pu 5 10 10 55 ?_
 refine pu 6 11 10 119 ?_
 refine pu 7 12 10 247 ?_
 refine one_ (i := 3) (N := some 8) (bl 10 255) rfl rfl (one_of HT_.out (by kernel_rfl)) (by decide) (fun K hK => ?_)
 refine Kd.R_append_rows_step (Kd.int .i64) (w0 := w) w.heap.size rfl (.const (.slice none 0 0)) (.tmp 7) 22 3 (.int .i64 0) 8 rfl Tryz.underlying22 info3 rfl (by decide) (by omega) (.slice none 0 0) ([] : List Int) (l0.take (a1 : Int).toNat) _ _ _ (fun _ => True) (fun _ => False) rfl rfl ?aO ?aR (fun _ _ h => h) (fun _ h => h.elim) ?aF ?aB ?aS ?aL ?_
 (case aR => first | (rw [← show (l0.take (a1 : Int).toNat).length = a1.toNat from (by rw [List.length_take]; have h_ : (a1 : Int) ≤ (l0.length : Int) := of_decide_eq_true (by first | (with_reducible assumption) | assumption); omega)]; (repeat (first | exact (Kd.C_below HR845.out HB.out) | (with_reducible refine Kd.C_alloc ?_ _) | (with_reducible refine Kd.C_drewN ?_ _) | (with_reducible refine Kd.C_drew ?_))); done) | ((repeat (first | exact (Kd.C_below HR845.out HB.out) | (with_reducible refine Kd.C_alloc ?_ _) | (with_reducible refine Kd.C_drewN ?_ _) | (with_reducible refine Kd.C_drew ?_))); done) | (refine Eq.mp (congrArg (fun n_ => ReadsRow _ _ _ _ n_ _) (show (l0.take (a1 : Int).toNat).length = a1.toNat from (by rw [List.length_take]; have h_ : (a1 : Int) ≤ (l0.length : Int) := of_decide_eq_true (by first | (with_reducible assumption) | assumption); omega))) ?_; (repeat (first | exact (Kd.C_below HR845.out HB.out) | (with_reducible refine Kd.C_alloc ?_ _) | (with_reducible refine Kd.C_drewN ?_ _) | (with_reducible refine Kd.C_drew ?_))); done))
 (case aB => exact uB)
 (case aF => exact (fun _ _ => trivial))
 (case aO => exact ((Kd.R_nil _ _ _ _ (fun _ => True))))
 (case aS => exact (below_size uB))
 (case aL => have := LMc5.out; have hlx_ := (show (l0.take (a1 : Int).toNat).length = a1.toNat from (by rw [List.length_take]; have h_ : (a1 : Int) ≤ (l0.length : Int) := of_decide_eq_true (by first | (with_reducible assumption) | assumption); omega)); omega)
 intro v847 w13 ho hb hg hat
 rw [← Ny846.out] at ho
 have HO848 := Aside0.mk (ho)
 replace HB := Aside0.mk (hb)
 clear ho hb hg hat
 refine hK.out _ _ trivial (fun hHeld => ?_)
 clear hK K
 refine nm ?_
 refine one_ (i := 8) (N := some 13) (bl 10 511) rfl rfl (one_of HT_.out (by kernel_rfl)) (by decide) (fun K hK => ?_)
 refine Kd.R_append_rows_step (Kd.int .i64) (w0 := w) w.heap.size (by rfl) (.tmp 8) (.tmp 12) 22 3 (.int .i64 0) 8 rfl Tryz.underlying22 info3 rfl (by decide) (by omega) v847 y846 (l0.drop ((ji6) : Int).toNat) _ _ _ (fun _ => True) (fun _ => False) rfl rfl ?aO ?aR (fun _ _ h => h) (fun _ h => h.elim) ?aF ?aB ?aS ?aL ?_
 (case aR => first | (rw [← show (l0.drop ((ji6) : Int).toNat).length = (l0.length - (ji6).toNat) from List.length_drop]; (repeat (first | exact (Kd.C_below HR849.out HB.out) | (with_reducible refine Kd.C_alloc ?_ _) | (with_reducible refine Kd.C_drewN ?_ _) | (with_reducible refine Kd.C_drew ?_))); done) | ((repeat (first | exact (Kd.C_below HR849.out HB.out) | (with_reducible refine Kd.C_alloc ?_ _) | (with_reducible refine Kd.C_drewN ?_ _) | (with_reducible refine Kd.C_drew ?_))); done) | (refine Eq.mp (congrArg (fun n_ => ReadsRow _ _ _ _ n_ _) (show (l0.drop ((ji6) : Int).toNat).length = (l0.length - (ji6).toNat) from List.length_drop)) ?_; (repeat (first | exact (Kd.C_below HR849.out HB.out) | (with_reducible refine Kd.C_alloc ?_ _) | (with_reducible refine Kd.C_drewN ?_ _) | (with_reducible refine Kd.C_drew ?_))); done))
 (case aB => exact uB)
 (case aF => exact (fun _ _ => trivial))
 (case aO => exact (uR HO848.out))
 (case aS => exact (below_size uB))
 (case aL => have := LMc9.out; have hlx_ := (show (l0.drop ((ji6) : Int).toNat).length = (l0.length - (ji6).toNat) from List.length_drop); omega)
 intro v851 w14 ho hb hg hat
 rw [← Ny850.out] at ho
 have HO852 := Aside0.mk (ho)
 replace HB := Aside0.mk (hb)
 clear HO848
 clear ho hb hg hat
 refine hK.out _ _ trivial (fun hHeld => ?_)
 clear hK K
 refine nm ?_
 refine pu 9 4 10 1023 ?_
 refine done_ (done_of HT_.out (by kernel_rfl)) ?_
 try go_wp2
 go_ret
 exact ⟨_, by first | rfl | (simp [errW_none, errW_some] <;> rfl) | (simp only [← hji6]; first | rfl | (simp [errW_none, errW_some] <;> rfl)) | (simp [*, errW_none, errW_some] <;> rfl), uR HO852.out, uB⟩
end Go.Proofs.YtdmdahafiiggiaaGreatDoor.K
end
section
namespace Go.Proofs.YtdmdahafiiggiaaGreatDoor.K
open Go.RowKit Go.Proofs.YtdmdahafiiggiaaGreatDoorW.PrintWords Go.Proofs.YtdmdahafiiggiaaGreatDoorW.PrintLast Go.Proofs.YtdmdahafiiggiaaGreatDoorW.PrintMore
attribute [local go_sem] max2_int min2_int max_two min_two max_three min_three max_four min_four
set_option linter.unusedVariables false
set_option linter.unusedSimpArgs false
mutual
def quinariaref02_Plan.l0 : Nat → List Int → Int → Int → List Int → Int → List Int → List (S32) → Option (List Int × Bool)
 | 0, _, _, _, _, _, _, _ => none
 | k + 1, x1, x2, x3, x10, x11, x854000, x854001 => if x11 < (x854001.length : Int) then ((quinariaref02_Latest.f k x854000 x854001 x11 x2).bind fun t854 => (if t854 < 0 then (some (([] : List Int), false)) else (if 0 ≤ x11 then (if x11 < (x1.length : Int) then ((quinariaref02_Last.f k x854000 x854001 x11 (rd x1 x11) x2 x3).bind fun t856 => (if t856 = 1000 then (quinariaref02_Plan.l0 k x1 x2 x3 x10 (wrap64 (x11 + 1)) x854000 x854001) else (if x10.length < 17592186044416 then (quinariaref02_Plan.l0 k x1 x2 x3 (x10 ++ [t856]) (wrap64 (x11 + 1)) x854000 x854001) else (none)))) else (none)) else (none)))) else ((quinariaref02_years.f k x10).bind fun bt860 => (if bt860.2 = true then (quinariaref02_Plan.l1 k x1 x2 x3 x10 bt860.1 ([] : List Int) 0 x854000 x854001) else (some (([] : List Int), false))))
def quinariaref02_Plan.l1 : Nat → List Int → Int → Int → List Int → List Int → List Int → Int → List Int → List (S32) → Option (List Int × Bool)
 | 0, _, _, _, _, _, _, _, _, _ => none
 | k + 1, x1, x2, x3, x10, x13, x15, x16, x854000, x854001 => if x16 < (x854001.length : Int) then (if 0 ≤ x16 then (if x16 < (x1.length : Int) then ((quinariaref02_Last.f k x854000 x854001 x16 (rd x1 x16) x2 x3).bind fun t865 => (if t865 = 1000 then (if x15.length < 17592186044416 then (quinariaref02_Plan.l1 k x1 x2 x3 x10 x13 (x15 ++ [(-1)]) (wrap64 (x16 + 1)) x854000 x854001) else (none)) else (if 0 < (x10.length : Int) then (if 1 ≤ (x10.length : Int) then (quinariaref02_Plan.l2 k x1 x2 x3 (x10.drop (1 : Int).toNat) x13 x15 x16 (rd x10 0) (-1) 0 x854000 x854001) else (none)) else (none)))) else (none)) else (none)) else (some (x15, true))
def quinariaref02_Plan.l2 : Nat → List Int → Int → Int → List Int → List Int → List Int → Int → Int → Int → Int → List Int → List (S32) → Option (List Int × Bool)
 | 0, _, _, _, _, _, _, _, _, _, _, _, _ => none
 | k + 1, x1, x2, x3, x10, x13, x15, x16, x17, x18, x19, x854000, x854001 => if x19 < (x13.length : Int) then (if 0 ≤ x19 then (if (rd x13 x19) ≤ x17 then (if x18 < 0 then ((quinariaref02_without.f x13 x19).bind fun t881 => ((quinariaref02_fills.f k x10 t881).bind fun t884 => (if t884 = true then (quinariaref02_Plan.l2 k x1 x2 x3 x10 x13 x15 x16 x17 x19 (wrap64 (x19 + 1)) x854000 x854001) else (quinariaref02_Plan.l2 k x1 x2 x3 x10 x13 x15 x16 x17 x18 (wrap64 (x19 + 1)) x854000 x854001)))) else (if 0 ≤ x18 then (if x18 < (x13.length : Int) then (if (rd x13 x19) < (rd x13 x18) then ((quinariaref02_without.f x13 x19).bind fun t887 => ((quinariaref02_fills.f k x10 t887).bind fun t890 => (if t890 = true then (quinariaref02_Plan.l2 k x1 x2 x3 x10 x13 x15 x16 x17 x19 (wrap64 (x19 + 1)) x854000 x854001) else (quinariaref02_Plan.l2 k x1 x2 x3 x10 x13 x15 x16 x17 x18 (wrap64 (x19 + 1)) x854000 x854001)))) else (quinariaref02_Plan.l2 k x1 x2 x3 x10 x13 x15 x16 x17 x18 (wrap64 (x19 + 1)) x854000 x854001)) else (none)) else (none))) else (quinariaref02_Plan.l2 k x1 x2 x3 x10 x13 x15 x16 x17 x18 (wrap64 (x19 + 1)) x854000 x854001)) else (none)) else (if 0 ≤ x18 then (if x18 < (x13.length : Int) then (if x15.length < 17592186044416 then ((quinariaref02_without.f x13 x18).bind fun t877 => (quinariaref02_Plan.l1 k x1 x2 x3 x10 t877 (x15 ++ [rd x13 x18]) (wrap64 (x16 + 1)) x854000 x854001)) else (none)) else (none)) else (none))
end
def quinariaref02_Plan.f (k : Nat) (l0_0 : List Int) (l0_1 : List (S32)) (l1 : List Int) (a2 : Int) (a3 : Int) : Option (List Int × Bool) := quinariaref02_Plan.l0 k l1 a2 a3 ([] : List Int) 0 l0_0 l0_1
def quinariaref02_Plan.T7 : Bool × List (List Nat × List Nat) := (true, [([], []), ([], []), ([], []), ([], []), ([2, 3], [2, 3]), ([4], [4]), ([], []), ([], []), ([0, 1, 5, 6, 7], [0, 1, 5, 6, 7]), ([8, 8, 0, 1, 2, 3, 4, 5, 6, 7, 8], [8])])
def quinariaref02_Plan.B7 : List Nat := [0, 0, 0, 0, 12, 28, 0, 0, 255, 511]
theorem quinariaref02_Plan.tab7 : rtab .any (opsOf Tryz.f34 7) = quinariaref02_Plan.T7 := by kernel_rfl
theorem quinariaref02_Plan.bits7 : waitsOk quinariaref02_Plan.T7.2 quinariaref02_Plan.B7 = true := by kernel_rfl
def quinariaref02_Plan.T17 : Bool × List (List Nat × List Nat) := (true, [([], []), ([], []), ([], []), ([], []), ([2, 3], [2, 3]), ([4], [4]), ([], []), ([], []), ([0, 1, 5, 6, 7], [0, 1, 5, 6, 7]), ([8], [8])])
def quinariaref02_Plan.B17 : List Nat := [0, 0, 0, 0, 12, 28, 0, 0, 255, 511]
theorem quinariaref02_Plan.tab17 : rtab .any (opsOf Tryz.f34 17) = quinariaref02_Plan.T17 := by kernel_rfl
theorem quinariaref02_Plan.bits17 : waitsOk quinariaref02_Plan.T17.2 quinariaref02_Plan.B17 = true := by kernel_rfl
def quinariaref02_Plan.T25 : Bool × List (List Nat × List Nat) := (true, [([], []), ([], []), ([0, 1], [0, 1]), ([2], [2]), ([], []), ([3, 4], [3, 4]), ([5], [5]), ([6], [6]), ([7, 6], [6, 7]), ([8, 6, 6], [6, 8]), ([9], [9]), ([9], [9]), ([10, 11, 9], [9, 10, 11]), ([12, 9], [9, 12]), ([9], [9]), ([9], [9]), ([14, 15, 9], [9, 14, 15]), ([16, 9], [9, 16]), ([13, 17, 9], [9, 13, 17]), ([9, 18, 6], [6, 9, 18]), ([6, 19], [6, 19]), ([20, 9], [20]), ([21], [21]), ([21], [21]), ([21], [21]), ([23, 24, 21, 21], [21, 23, 24]), ([22, 25, 25, 21], [21, 22, 25]), ([21, 26], [21, 26])])
def quinariaref02_Plan.B25 : List Nat := [0, 0, 3, 7, 0, 31, 63, 127, 255, 511, 1023, 1023, 4095, 8191, 1023, 1023, 50175, 115711, 262143, 524287, 1048575, 2097151, 4194303, 4194303, 4194303, 29360127, 67108863, 134217727]
theorem quinariaref02_Plan.tab25 : rtab .any (opsOf Tryz.f34 25) = quinariaref02_Plan.T25 := by kernel_rfl
theorem quinariaref02_Plan.bits25 : waitsOk quinariaref02_Plan.T25.2 quinariaref02_Plan.B25 = true := by kernel_rfl
set_option maxHeartbeats 8000000 in
set_option maxRecDepth 100000 in
theorem quinariaref02_Plan.calls (k : Nat) (A0_0 : Option Addr) (c0_0 : Nat) (l0_0 : List Int) (A0_1 : Option Addr) (c0_1 : Nat) (l0_1 : List (S32)) (A1 : Option Addr) (c1 : Nat) (l1 : List Int) (a2 : Int) (a3 : Int) (r1 : List Int) (r2 : Bool) (w : World) (hr0_0 : Kd.C (Kd.int .i64) w A0_0 l0_0.length l0_0) (hc0_0 : l0_0.length ≤ c0_0) (hr0_1 : Kd.C k32 w A0_1 l0_1.length l0_1) (hc0_1 : l0_1.length ≤ c0_1) (hr1 : Kd.C (Kd.int .i64) w A1 l1.length l1) (hc1 : l1.length ≤ c1) (h : quinariaref02_Plan.f k l0_0 l0_1 l1 a2 a3 = some (r1, r2)) :
  Calls Tryz.prog 34 #[.agg #[.slice A0_0 l0_0.length c0_0, .slice A0_1 l0_1.length c0_1], .slice A1 l1.length c1, .int .i64 a2, .int .i64 a3] w fun e w' => ∃ v0_ : Value, e = .returned (.tuple #[v0_, .bool r2]) ∧ Kd.R (Kd.int .i64) 3 w' w.heap.size (fun _ => True) v0_ r1 ∧ Below w.heap.size w w' := by
 have hu25 := Tryz.underlying25
 have HR0_0 := Aside0.mk hr0_0
 have HC0_0 := Aside0.mk hc0_0
 clear hr0_0 hc0_0
 have HR0_1 := Aside0.mk hr0_1
 have HC0_1 := Aside0.mk hc0_1
 clear hr0_1 hc0_1
 have HR1 := Aside0.mk hr1
 have HC1 := Aside0.mk hc1
 clear hr1 hc1
 have HB := Aside0.mk (Below.refl w.heap.size w)
 have H : (quinariaref02_Plan.l0 k l1 a2 a3 ([] : List Int) 0 l0_0 l0_1) = some (r1, r2) := h
 clear h
 have H' := Aside0.mk H
 clear H
 go_enter Tryz.func34, Tryz.ntmps34
 go_wp2_with (first | ((with_reducible refine gate_dst (N := 4) rfl ?_); refine bxe 4 #[.slice A0_0 l0_0.length c0_0, .slice A0_1 l0_1.length c0_1] 25 ?_; intro gb853 hg w5 hbox hb; have n0_ := Aside0.mk (below_step uB hb); have n1_ := Aside0.mk (hbox); have n2_ := gw hg; have n3_ := gw hg; clear HB; have HB := n0_; have BK853 := n1_; have GW853 := n2_; have GE853 := n3_; clear n0_ n1_ n2_ n3_; clear hb hbox hg))
 go_loopg [10, 11] k (fun kq v10 v11 w' => ∃ (x10_1 : List Int) (x11_1 : Int), v11 = .int .i64 x11_1 ∧ Aside0 (quinariaref02_Plan.l0 kq l1 a2 a3 x10_1 x11_1 l0_0 l0_1 = some (r1, r2)) ∧ Aside0 (kq ≤ k) ∧ Aside0 (Kd.Q (Kd.int .i64) 3 w' w.heap.size (fun _ => True) v10 x10_1) ∧ Aside0 (w'.heap[gb853]? = some (.cells #[(.slice A0_0 l0_0.length c0_0), (.slice A0_1 l0_1.length c0_1)] 25 (0, 0))) ∧ Aside0 (Below w.heap.size w w'))
 case atStart => exact ⟨(([] : List Int)), (0), u0, H', ⟨Nat.le_refl _⟩, ⟨Kd.Q_of_R uN⟩, ⟨uK BK853.out⟩, ⟨uB⟩⟩
 case round =>
  clear H'
  obtain ⟨x10_1, x11_1, rfl, HA, HK1, HO_10, BK853, HB⟩ := hrel
  cases gk with
  | zero => exact absurd HA.out (by simp [quinariaref02_Plan.l0])
  | succ k1 =>
   have H := HA.out
   clear HA
   simp only [quinariaref02_Plan.l0] at H
   by_cases c6 : x11_1 < (l0_1.length : Int)
   ·rw [if_pos c6] at H
    replace c6 := decide_eq_true c6
    replace H := Option.bind_eq_some_iff.mp H
    obtain ⟨t854, A70, H⟩ := H
    replace H : (if t854 < 0 then (some (([] : List Int), false)) else (if 0 ≤ x11_1 then (if x11_1 < (l1.length : Int) then ((quinariaref02_Last.f k1 l0_0 l0_1 x11_1 (rd l1 x11_1) a2 a3).bind fun t856 => (if t856 = 1000 then (quinariaref02_Plan.l0 k1 l1 a2 a3 x10_1 (wrap64 (x11_1 + 1)) l0_0 l0_1) else (if x10_1.length < 17592186044416 then (quinariaref02_Plan.l0 k1 l1 a2 a3 (x10_1 ++ [t856]) (wrap64 (x11_1 + 1)) l0_0 l0_1) else (none)))) else (none)) else (none))) = some (r1, r2) := H
    have A7 := Aside0.mk A70
    clear A70
    by_cases c8 : t854 < 0
    ·rw [if_pos c8] at H
     replace c8 := decide_eq_true c8
     simp only [Option.some.injEq, Prod.mk.injEq] at H
     obtain ⟨rfl, rfl⟩ := H
     obtain ⟨hcz9_0, hcz9_1⟩ := cz2 BK853.out
     obtain ⟨hfz9_0, hfz9_1⟩ := fz2 BK853.out
     go_wp2_with (first | ((with_reducible refine gate_callee (f := 30) rfl ?_); refine goesL_ (some 30) rfl rfl Tryz.func30 (by kernel_rfl) rfl #[.agg #[.slice A0_0 l0_0.length c0_0, .slice A0_1 l0_1.length c0_1], .int .i64 x11_1, .int .i64 a2] rfl uM ?_; (with_reducible refine (quinariaref02_Latest.calls k1 _ _ l0_0 _ _ l0_1 x11_1 a2 t854 _ ?side1 ?side2 ?side3 ?side4 A7.out).mono ?_); (case side1 => exact uC (Kd.C_below HR0_0.out HB.out)); (case side2 => exact HC0_0.out); (case side3 => exact uC (Kd.C_below HR0_1.out HB.out)); (case side4 => exact HC0_1.out); rintro e w10 ⟨rfl, hb⟩; refine ⟨_, rfl, ?_⟩; replace HO_10 := Aside0.mk (Kd.Q_below (uQ HO_10.out) hb); replace BK853 := Aside0.mk (blk_below (uK BK853.out) hb); replace HB := Aside0.mk (below_step uB hb); (try clear hb); (try clear hb2); (try clear hk); (try clear hi)))
     go_ret2
     exact ⟨_, uE, uN, uB⟩
    ·rw [if_neg c8] at H
     replace c8 := decide_eq_false c8
     obtain ⟨c11, H⟩ := ifs H
     replace c11 := decide_eq_true c11
     obtain ⟨c12, H⟩ := ifs H
     replace c12 := decide_eq_true c12
     replace H := Option.bind_eq_some_iff.mp H
     obtain ⟨t856, A130, H⟩ := H
     replace H : (if t856 = 1000 then (quinariaref02_Plan.l0 k1 l1 a2 a3 x10_1 (wrap64 (x11_1 + 1)) l0_0 l0_1) else (if x10_1.length < 17592186044416 then (quinariaref02_Plan.l0 k1 l1 a2 a3 (x10_1 ++ [t856]) (wrap64 (x11_1 + 1)) l0_0 l0_1) else (none))) = some (r1, r2) := H
     have A13 := Aside0.mk A130
     clear A130
     by_cases c14 : t856 = 1000
     ·rw [if_pos c14] at H
      have c14b0 : (t856 == 1000) = true := beq_iff_eq.mpr c14
      have c14b1 : (t856 != 1000) = false := bne_eq_false_iff_eq.mpr c14
      clear c14
      have H' := Aside0.mk H
      clear H
      obtain ⟨hcz15_0, hcz15_1⟩ := cz2 BK853.out
      obtain ⟨hfz15_0, hfz15_1⟩ := fz2 BK853.out
      try go_wp2_with (first | ((with_reducible refine gate_callee (f := 30) rfl ?_); refine goesL_ (some 30) rfl rfl Tryz.func30 (by kernel_rfl) rfl #[.agg #[.slice A0_0 l0_0.length c0_0, .slice A0_1 l0_1.length c0_1], .int .i64 x11_1, .int .i64 a2] rfl uM ?_; (with_reducible refine (quinariaref02_Latest.calls k1 _ _ l0_0 _ _ l0_1 x11_1 a2 t854 _ ?side1 ?side2 ?side3 ?side4 A7.out).mono ?_); (case side1 => exact uC (Kd.C_below HR0_0.out HB.out)); (case side2 => exact HC0_0.out); (case side3 => exact uC (Kd.C_below HR0_1.out HB.out)); (case side4 => exact HC0_1.out); rintro e w16 ⟨rfl, hb⟩; refine ⟨_, rfl, ?_⟩; replace HO_10 := Aside0.mk (Kd.Q_below (uQ HO_10.out) hb); replace BK853 := Aside0.mk (blk_below (uK BK853.out) hb); replace HB := Aside0.mk (below_step uB hb); (try clear hb); (try clear hb2); (try clear hk); (try clear hi)))
      replace HO_10 := Aside0.mk (Kd.Q_drew HO_10.out)
      replace BK853 := Aside0.mk (blk_drew BK853.out)
      replace HB := Aside0.mk (below_drew1 HB.out)
      have p855 : 0 ≤ (x11_1 : Int) := of_decide_eq_true (by first | (with_reducible assumption) | assumption)
      have q855 : x11_1 < (l1.length : Int) := of_decide_eq_true (by first | (with_reducible assumption) | assumption)
      obtain ⟨ad855, e855, hx855_0⟩ := Kd.at_int HR1.out x11_1 p855 q855
      have hw855_0 := hx855_0
      cases e855
      replace hx855_0 := hcell HB.out hx855_0
      replace p855 := eq_true p855
      replace q855 := eq_true q855
      refine start_ (n := 10) (S := fun w' => w'.cell? ⟨gb853, 0, none⟩ = some (.slice A0_0 l0_0.length c0_0) ∧ w'.cell? ⟨gb853, 1, none⟩ = some (.slice A0_1 l0_1.length c0_1) ∧ w'.cell? (ad855.add (x11_1).toNat) = some (.int .i64 (rd l1 x11_1))) (ds := []) (bl 10 0) (by kernel_rfl) rfl rfl ⟨(blk_cell BK853.out 0).trans rfl, (blk_cell BK853.out 1).trans rfl, (hcell HB.out hw855_0)⟩ (fun hHeld => ?_); refine with_tabW quinariaref02_Plan.tab7 quinariaref02_Plan.bits7 (fun HT_ HW_ => ?_)
      generalize w16.drew = w17 at HO_10 BK853 HB hx855_0 hHeld ⊢
      refine pu 1 33 10 2 ?_
      refine pu 2 34 10 6 ?_
      refine pu 3 35 10 14 ?_
      refine pu 4 36 10 30 ?_
      refine pu 6 38 10 94 ?_
      refine pu 7 39 10 222 ?_
      refine tk3 0 32 10 223 hHeld ?_
      refine tk3 5 37 10 255 hHeld ?_
      refine one_ (i := 8) (N := some 40) (bl 10 511) rfl rfl (one_of HT_.out (by kernel_rfl)) (by decide) (fun K hK => ?_)
      refine goes_ Tryz.func75 (by kernel_rfl) rfl #[.agg #[.slice A0_0 l0_0.length c0_0, .slice A0_1 l0_1.length c0_1], .int .i64 x11_1, .int .i64 (rd l1 x11_1), .int .i64 a2, .int .i64 a3] (by rfl) rfl rfl uM ?_
      with_reducible refine (quinariaref02_Last.calls k1 _ _ l0_0 _ _ l0_1 x11_1 (rd l1 x11_1) a2 a3 t856 _ ?side1 ?side2 ?side3 ?side4 A13.out).mono ?_
      (case side1 => exact uC (Kd.C_below HR0_0.out HB.out))
      (case side2 => exact HC0_0.out)
      (case side3 => exact uC (Kd.C_below HR0_1.out HB.out))
      (case side4 => exact HC0_1.out)
      rintro e w18 ⟨rfl, hb⟩
      refine ⟨_, rfl, ?_⟩
      replace HO_10 := Aside0.mk (Kd.Q_below (uQ HO_10.out) hb)
      replace BK853 := Aside0.mk (blk_below (uK BK853.out) hb)
      replace HB := Aside0.mk (below_step uB hb)
      (try clear hb)
      (try clear hb2)
      (try clear hk)
      (try clear hi)
      refine hK.out _ _ ⟨(blk_cell BK853.out 0).trans rfl, (blk_cell BK853.out 1).trans rfl, (hcell HB.out hw855_0)⟩ (fun hHeld => ?_)
      clear hK K
      refine nm ?_
      refine pu 9 12 10 1023 ?_
      refine done_ (done_of HT_.out (by kernel_rfl)) ?_
      try go_wp2
      go_roundg k1
      case measure => have := HK1.out; omega
      case rel => exact ⟨(x10_1), (wrap64 (x11_1 + 1)), u0, H', ⟨by have := HK1.out; omega⟩, ⟨uQ HO_10.out⟩, ⟨uK BK853.out⟩, ⟨uB⟩⟩
     ·rw [if_neg c14] at H
      have c14b0 : (t856 == 1000) = false := beq_eq_false_iff_ne.mpr c14
      have c14b1 : (t856 != 1000) = true := bne_iff_ne.mpr c14
      obtain ⟨c19, H⟩ := ifs H
      have LMc19 := Aside0.mk c19
      clear c19
      obtain ⟨y857, hy857⟩ : ∃ y_ : List Int, y_ = (x10_1 ++ [t856]) := ⟨_, rfl⟩
      rw [← hy857] at H
      have Ny857 := Aside0.mk hy857
      clear hy857
      have H' := Aside0.mk H
      clear H
      obtain ⟨hcz20_0, hcz20_1⟩ := cz2 BK853.out
      obtain ⟨hfz20_0, hfz20_1⟩ := fz2 BK853.out
      try go_wp2_with (first | ((with_reducible refine gate_callee (f := 30) rfl ?_); refine goesL_ (some 30) rfl rfl Tryz.func30 (by kernel_rfl) rfl #[.agg #[.slice A0_0 l0_0.length c0_0, .slice A0_1 l0_1.length c0_1], .int .i64 x11_1, .int .i64 a2] rfl uM ?_; (with_reducible refine (quinariaref02_Latest.calls k1 _ _ l0_0 _ _ l0_1 x11_1 a2 t854 _ ?side1 ?side2 ?side3 ?side4 A7.out).mono ?_); (case side1 => exact uC (Kd.C_below HR0_0.out HB.out)); (case side2 => exact HC0_0.out); (case side3 => exact uC (Kd.C_below HR0_1.out HB.out)); (case side4 => exact HC0_1.out); rintro e w21 ⟨rfl, hb⟩; refine ⟨_, rfl, ?_⟩; replace HO_10 := Aside0.mk (Kd.Q_below (uQ HO_10.out) hb); replace BK853 := Aside0.mk (blk_below (uK BK853.out) hb); replace HB := Aside0.mk (below_step uB hb); (try clear hb); (try clear hb2); (try clear hk); (try clear hi)))
      replace HO_10 := Aside0.mk (Kd.Q_drew HO_10.out)
      replace BK853 := Aside0.mk (blk_drew BK853.out)
      replace HB := Aside0.mk (below_drew1 HB.out)
      have p855 : 0 ≤ (x11_1 : Int) := of_decide_eq_true (by first | (with_reducible assumption) | assumption)
      have q855 : x11_1 < (l1.length : Int) := of_decide_eq_true (by first | (with_reducible assumption) | assumption)
      obtain ⟨ad855, e855, hx855_0⟩ := Kd.at_int HR1.out x11_1 p855 q855
      have hw855_0 := hx855_0
      cases e855
      replace hx855_0 := hcell HB.out hx855_0
      replace p855 := eq_true p855
      replace q855 := eq_true q855
      refine start_ (n := 10) (S := fun w' => w'.cell? ⟨gb853, 0, none⟩ = some (.slice A0_0 l0_0.length c0_0) ∧ w'.cell? ⟨gb853, 1, none⟩ = some (.slice A0_1 l0_1.length c0_1) ∧ w'.cell? (ad855.add (x11_1).toNat) = some (.int .i64 (rd l1 x11_1))) (ds := []) (bl 10 0) (by kernel_rfl) rfl rfl ⟨(blk_cell BK853.out 0).trans rfl, (blk_cell BK853.out 1).trans rfl, (hcell HB.out hw855_0)⟩ (fun hHeld => ?_); refine with_tabW quinariaref02_Plan.tab7 quinariaref02_Plan.bits7 (fun HT_ HW_ => ?_)
      generalize w21.drew = w22 at HO_10 BK853 HB hx855_0 hHeld ⊢
      refine pu 1 33 10 2 ?_
      refine pu 2 34 10 6 ?_
      refine pu 3 35 10 14 ?_
      refine pu 4 36 10 30 ?_
      refine pu 6 38 10 94 ?_
      refine pu 7 39 10 222 ?_
      refine tk3 0 32 10 223 hHeld ?_
      refine tk3 5 37 10 255 hHeld ?_
      refine one_ (i := 8) (N := some 40) (bl 10 511) rfl rfl (one_of HT_.out (by kernel_rfl)) (by decide) (fun K hK => ?_)
      refine goes_ Tryz.func75 (by kernel_rfl) rfl #[.agg #[.slice A0_0 l0_0.length c0_0, .slice A0_1 l0_1.length c0_1], .int .i64 x11_1, .int .i64 (rd l1 x11_1), .int .i64 a2, .int .i64 a3] (by rfl) rfl rfl uM ?_
      with_reducible refine (quinariaref02_Last.calls k1 _ _ l0_0 _ _ l0_1 x11_1 (rd l1 x11_1) a2 a3 t856 _ ?side1 ?side2 ?side3 ?side4 A13.out).mono ?_
      (case side1 => exact uC (Kd.C_below HR0_0.out HB.out))
      (case side2 => exact HC0_0.out)
      (case side3 => exact uC (Kd.C_below HR0_1.out HB.out))
      (case side4 => exact HC0_1.out)
      rintro e w23 ⟨rfl, hb⟩
      refine ⟨_, rfl, ?_⟩
      replace HO_10 := Aside0.mk (Kd.Q_below (uQ HO_10.out) hb)
      replace BK853 := Aside0.mk (blk_below (uK BK853.out) hb)
      replace HB := Aside0.mk (below_step uB hb)
      (try clear hb)
      (try clear hb2)
      (try clear hk)
      (try clear hi)
      refine hK.out _ _ ⟨(blk_cell BK853.out 0).trans rfl, (blk_cell BK853.out 1).trans rfl, (hcell HB.out hw855_0)⟩ (fun hHeld => ?_)
      clear hK K
      refine nm ?_
      refine pu 9 12 10 1023 ?_
      refine done_ (done_of HT_.out (by kernel_rfl)) ?_
      try go_wp2_with (first | ((with_reducible refine gate_builtin (b := .append) (xs := #[.tmp 43, .tmp 45]) rfl ?_); at_builtin; refine Kd.Q_append (Kd.int .i64) (w0 := w) w.heap.size rfl (.tmp 43) (.tmp 45) 22 3 (.int .i64 0) 8 rfl Tryz.underlying22 info3 rfl (by decide) (by omega) u10 x10_1 t856 [.int .i64 t856] (fun _ => True) (fun _ => False) rfl rfl ?aP (fun _ hk => hk.elim) ?aF ?aO ?aB ?aS ?aL ?_; (case aP => exact rfl); (case aB => exact uB); (case aF => exact (fun _ _ => trivial)); (case aO => exact (uQ HO_10.out)); (case aS => exact (below_size uB)); (case aL => have := LMc19.out; omega); intro v858 w24 ho hb hg hat; rw [← Ny857.out] at ho; replace BK853 := Aside0.mk (blk_grown (uK BK853.out) hg (Kd.Q_ne HO_10.out BK853.out (by decide))); have HO859 := Aside0.mk (ho); replace HB := Aside0.mk (hb); clear HO_10; clear ho hb hg hat))
      go_roundg k1
      case measure => have := HK1.out; omega
      case rel => exact ⟨(y857), (wrap64 (x11_1 + 1)), u0, H', ⟨by have := HK1.out; omega⟩, ⟨uQ HO859.out⟩, ⟨uK BK853.out⟩, ⟨uB⟩⟩
   ·rw [if_neg c6] at H
    replace c6 := decide_eq_false c6
    replace H := Option.bind_eq_some_iff.mp H
    obtain ⟨⟨t860, t861⟩, A250, H⟩ := H
    replace H : (if t861 = true then (quinariaref02_Plan.l1 k1 l1 a2 a3 x10_1 t860 ([] : List Int) 0 l0_0 l0_1) else (some (([] : List Int), false))) = some (r1, r2) := H
    have A25 := Aside0.mk A250
    clear A250
    by_cases c26 : t861 = true
    ·subst c26
     have H1 : (quinariaref02_Plan.l1 k1 l1 a2 a3 x10_1 t860 ([] : List Int) 0 l0_0 l0_1) = some (r1, r2) := by rw [if_pos rfl] at H; exact H
     clear H
     have H := H1
     clear H1
     have H' := Aside0.mk H
     clear H
     obtain ⟨hcz27_0, hcz27_1⟩ := cz2 BK853.out
     obtain ⟨hfz27_0, hfz27_1⟩ := fz2 BK853.out
     obtain ⟨Ao28, co28, eo28, _⟩ := Kd.Q_slice HO_10.out
     subst eo28
     go_wp2_with (first | ((with_reducible refine gate_callee (f := 76) rfl ?_); refine goesL_ (some 49) rfl rfl Tryz.func76 (by kernel_rfl) rfl #[.slice Ao28 x10_1.length co28] rfl uM ?_; (with_reducible refine (quinariaref02_years.calls k1 _ _ x10_1 t860 true _ ?side1 ?side2 A25.out).mono ?_); (case side1 => exact uC ((Kd.Q_reads' HO_10.out).2.2)); (case side2 => exact (Kd.Q_reads' HO_10.out).2.1); rintro e w29 ⟨v862, rfl, ho0, hb⟩; refine ⟨_, rfl, ?_⟩; have n0_ := Aside0.mk (Kd.Q_elder' (uQ HO_10.out) (Kd.R_base ho0) hb); have n1_ := Aside0.mk (Kd.R_lower (Kd.R_new' ho0 (Kd.Q_lt (uQ HO_10.out))) (below_size uB)); have n2_ := Aside0.mk (blk_below (uK BK853.out) hb); have n3_ := Aside0.mk (below_step uB hb); clear HO_10; clear BK853; clear HB; have HO_10 := n0_; have HO863 := n1_; have BK853 := n2_; have HB := n3_; clear n0_ n1_ n2_ n3_; (try clear hb); (try clear hb2); (try clear hk); (try clear hi); (try clear ho0)))
     go_loopg [10, 13, 15, 16] k1 (fun kq v10 v13 v15 v16 w' => ∃ (x10_2 : List Int) (x13_2 : List Int) (x15_2 : List Int) (x16_2 : Int), v16 = .int .i64 x16_2 ∧ Aside0 (quinariaref02_Plan.l1 kq l1 a2 a3 x10_2 x13_2 x15_2 x16_2 l0_0 l0_1 = some (r1, r2)) ∧ Aside0 (kq ≤ k1) ∧ Aside0 (Kd.Q (Kd.int .i64) 3 w' w.heap.size (fun k_ => some k_ ≠ (v13 : Value).ownBlock ∧ some k_ ≠ (v15 : Value).ownBlock) v10 x10_2) ∧ Aside0 (Kd.R (Kd.int .i64) 3 w' w.heap.size (fun k_ => some k_ ≠ (v10 : Value).ownBlock ∧ some k_ ≠ (v15 : Value).ownBlock) v13 x13_2) ∧ Aside0 (Kd.R (Kd.int .i64) 3 w' w.heap.size (fun k_ => some k_ ≠ (v10 : Value).ownBlock ∧ some k_ ≠ (v13 : Value).ownBlock) v15 x15_2) ∧ Aside0 (w'.heap[gb853]? = some (.cells #[(.slice A0_0 l0_0.length c0_0), (.slice A0_1 l0_1.length c0_1)] 25 (0, 0))) ∧ Aside0 (Below w.heap.size w w'))
     case atStart => exact ⟨(x10_1), (t860), (([] : List Int)), (0), u0, H', ⟨Nat.le_refl _⟩, ⟨by refine uQ ?_; exact Kd.Q_mono HO_10.out (fun _ hk => ⟨hk.2, (by simp [Value.ownBlock])⟩)⟩, ⟨by refine uR ?_; exact Kd.R_mono HO863.out (fun _ hk => ⟨hk.2, (by simp [Value.ownBlock])⟩)⟩, ⟨uN⟩, ⟨uK BK853.out⟩, ⟨uB⟩⟩
     case round =>
      clear H'
      obtain ⟨x10_2, x13_2, x15_2, x16_2, rfl, HA, HK2, HO_10, HO_13, HO_15, BK853, HB⟩ := hrel
      cases gk with
      | zero => exact absurd HA.out (by simp [quinariaref02_Plan.l1])
      | succ k2 =>
       have H := HA.out
       clear HA
       simp only [quinariaref02_Plan.l1] at H
       by_cases c30 : x16_2 < (l0_1.length : Int)
       ·rw [if_pos c30] at H
        replace c30 := decide_eq_true c30
        obtain ⟨c31, H⟩ := ifs H
        replace c31 := decide_eq_true c31
        obtain ⟨c32, H⟩ := ifs H
        replace c32 := decide_eq_true c32
        replace H := Option.bind_eq_some_iff.mp H
        obtain ⟨t865, A330, H⟩ := H
        replace H : (if t865 = 1000 then (if x15_2.length < 17592186044416 then (quinariaref02_Plan.l1 k2 l1 a2 a3 x10_2 x13_2 (x15_2 ++ [(-1)]) (wrap64 (x16_2 + 1)) l0_0 l0_1) else (none)) else (if 0 < (x10_2.length : Int) then (if 1 ≤ (x10_2.length : Int) then (quinariaref02_Plan.l2 k2 l1 a2 a3 (x10_2.drop (1 : Int).toNat) x13_2 x15_2 x16_2 (rd x10_2 0) (-1) 0 l0_0 l0_1) else (none)) else (none))) = some (r1, r2) := H
        have A33 := Aside0.mk A330
        clear A330
        by_cases c34 : t865 = 1000
        ·rw [if_pos c34] at H
         have c34b0 : (t865 == 1000) = true := beq_iff_eq.mpr c34
         have c34b1 : (t865 != 1000) = false := bne_eq_false_iff_eq.mpr c34
         clear c34
         obtain ⟨c35, H⟩ := ifs H
         have LMc35 := Aside0.mk c35
         clear c35
         obtain ⟨y866, hy866⟩ : ∃ y_ : List Int, y_ = (x15_2 ++ [(-1)]) := ⟨_, rfl⟩
         rw [← hy866] at H
         have Ny866 := Aside0.mk hy866
         clear hy866
         have H' := Aside0.mk H
         clear H
         obtain ⟨hcz36_0, hcz36_1⟩ := cz2 BK853.out
         obtain ⟨hfz36_0, hfz36_1⟩ := fz2 BK853.out
         try go_wp2
         replace HO_10 := Aside0.mk (Kd.Q_drew HO_10.out)
         replace HO_13 := Aside0.mk (Kd.R_drew HO_13.out)
         replace HO_15 := Aside0.mk (Kd.R_drew HO_15.out)
         replace BK853 := Aside0.mk (blk_drew BK853.out)
         replace HB := Aside0.mk (below_drew1 HB.out)
         have p864 : 0 ≤ (x16_2 : Int) := of_decide_eq_true (by first | (with_reducible assumption) | assumption)
         have q864 : x16_2 < (l1.length : Int) := of_decide_eq_true (by first | (with_reducible assumption) | assumption)
         obtain ⟨ad864, e864, hx864_0⟩ := Kd.at_int HR1.out x16_2 p864 q864
         have hw864_0 := hx864_0
         cases e864
         replace hx864_0 := hcell HB.out hx864_0
         replace p864 := eq_true p864
         replace q864 := eq_true q864
         refine start_ (n := 10) (S := fun w' => w'.cell? ⟨gb853, 0, none⟩ = some (.slice A0_0 l0_0.length c0_0) ∧ w'.cell? ⟨gb853, 1, none⟩ = some (.slice A0_1 l0_1.length c0_1) ∧ w'.cell? (ad864.add (x16_2).toNat) = some (.int .i64 (rd l1 x16_2))) (ds := []) (bl 10 0) (by kernel_rfl) rfl rfl ⟨(blk_cell BK853.out 0).trans rfl, (blk_cell BK853.out 1).trans rfl, (hcell HB.out hw864_0)⟩ (fun hHeld => ?_); refine with_tabW quinariaref02_Plan.tab17 quinariaref02_Plan.bits17 (fun HT_ HW_ => ?_)
         generalize wr.drew = w37 at HO_10 HO_13 HO_15 BK853 HB hx864_0 hHeld ⊢
         refine pu 1 62 10 2 ?_
         refine pu 2 63 10 6 ?_
         refine pu 3 64 10 14 ?_
         refine pu 4 65 10 30 ?_
         refine pu 6 67 10 94 ?_
         refine pu 7 68 10 222 ?_
         refine tk3 0 61 10 223 hHeld ?_
         refine tk3 5 66 10 255 hHeld ?_
         refine one_ (i := 8) (N := some 69) (bl 10 511) rfl rfl (one_of HT_.out (by kernel_rfl)) (by decide) (fun K hK => ?_)
         refine goes_ Tryz.func75 (by kernel_rfl) rfl #[.agg #[.slice A0_0 l0_0.length c0_0, .slice A0_1 l0_1.length c0_1], .int .i64 x16_2, .int .i64 (rd l1 x16_2), .int .i64 a2, .int .i64 a3] (by rfl) rfl rfl uM ?_
         with_reducible refine (quinariaref02_Last.calls k2 _ _ l0_0 _ _ l0_1 x16_2 (rd l1 x16_2) a2 a3 t865 _ ?side1 ?side2 ?side3 ?side4 A33.out).mono ?_
         (case side1 => exact uC (Kd.C_below HR0_0.out HB.out))
         (case side2 => exact HC0_0.out)
         (case side3 => exact uC (Kd.C_below HR0_1.out HB.out))
         (case side4 => exact HC0_1.out)
         rintro e w38 ⟨rfl, hb⟩
         refine ⟨_, rfl, ?_⟩
         replace HO_10 := Aside0.mk (Kd.Q_below (uQ HO_10.out) hb)
         replace HO_13 := Aside0.mk (Kd.R_below (uR HO_13.out) hb)
         replace HO_15 := Aside0.mk (Kd.R_below (uR HO_15.out) hb)
         replace BK853 := Aside0.mk (blk_below (uK BK853.out) hb)
         replace HB := Aside0.mk (below_step uB hb)
         (try clear hb)
         (try clear hb2)
         (try clear hk)
         (try clear hi)
         refine hK.out _ _ ⟨(blk_cell BK853.out 0).trans rfl, (blk_cell BK853.out 1).trans rfl, (hcell HB.out hw864_0)⟩ (fun hHeld => ?_)
         clear hK K
         refine nm ?_
         refine pu 9 70 10 1023 ?_
         refine done_ (done_of HT_.out (by kernel_rfl)) ?_
         try go_wp2_with (first | ((with_reducible refine gate_builtin (b := .append) (xs := #[.tmp 71, .tmp 72]) rfl ?_); at_builtin; refine Kd.R_append (Kd.int .i64) (w0 := w) w.heap.size rfl (.tmp 71) (.tmp 72) 22 3 (.int .i64 0) 8 rfl Tryz.underlying22 info3 rfl (by decide) (by omega) u15 x15_2 (-1) [.int .i64 (-1)] (fun k_ => some k_ ≠ (u10 : Value).ownBlock ∧ some k_ ≠ (u13 : Value).ownBlock) (fun _ => False) rfl rfl ?aP (fun _ hk => hk.elim) ?aF ?aO ?aB ?aS ?aL ?_; (case aP => exact rfl); (case aB => exact uB); (case aF => exact (fun k_ hk => ⟨Kd.fresh' (Kd.Q_lt (uQ HO_10.out)) k_ hk, Kd.fresh' (Kd.R_lt (uR HO_13.out)) k_ hk⟩)); (case aO => exact (uR HO_15.out)); (case aS => exact (below_size uB)); (case aL => have := LMc35.out; omega); intro v867 w39 ho hb hg hat; rw [← Ny866.out] at ho; replace HO_10 := Aside0.mk (Kd.Q_after (ok := (fun k_ => some k_ ≠ (u13 : Value).ownBlock)) (uQ HO_10.out) hg hat); replace HO_13 := Aside0.mk (Kd.R_after (ok := (fun k_ => some k_ ≠ (u10 : Value).ownBlock)) (uR HO_13.out) hg hat); replace BK853 := Aside0.mk (blk_grown (uK BK853.out) hg (Kd.R_ne HO_15.out BK853.out (by decide))); have HO868 := Aside0.mk (ho); replace HB := Aside0.mk (hb); clear HO_15; clear ho hb hg hat))
         go_roundg k2
         case measure => have := HK1.out; have := HK2.out; omega
         case rel => exact ⟨(x10_2), (x13_2), (y866), (wrap64 (x16_2 + 1)), u0, H', ⟨by have := HK1.out; have := HK2.out; omega⟩, ⟨uQ HO_10.out⟩, ⟨uR HO_13.out⟩, ⟨uR HO868.out⟩, ⟨uK BK853.out⟩, ⟨uB⟩⟩
        ·rw [if_neg c34] at H
         have c34b0 : (t865 == 1000) = false := beq_eq_false_iff_ne.mpr c34
         have c34b1 : (t865 != 1000) = true := bne_iff_ne.mpr c34
         obtain ⟨c40, H⟩ := ifs H
         have c40b0 : decide (0 < (x10_2.length : Int)) = true := decide_eq_true c40
         have c40b1 : decide (0 < x10_2.length) = true := decide_eq_true (by omega)
         clear c40
         obtain ⟨c41, H⟩ := ifs H
         have c41b0 := eq_true c41
         have c41b1 : decide (1 ≤ (x10_2.length : Int)) = true := decide_eq_true c41
         clear c41
         obtain ⟨y870, hy870⟩ : ∃ y_ : List Int, y_ = (x10_2.drop (1 : Int).toNat) := ⟨_, rfl⟩
         rw [← hy870] at H
         have Ny870 := Aside0.mk hy870
         clear hy870
         have H' := Aside0.mk H
         clear H
         obtain ⟨hcz42_0, hcz42_1⟩ := cz2 BK853.out
         obtain ⟨hfz42_0, hfz42_1⟩ := fz2 BK853.out
         try go_wp2
         replace HO_10 := Aside0.mk (Kd.Q_drew HO_10.out)
         replace HO_13 := Aside0.mk (Kd.R_drew HO_13.out)
         replace HO_15 := Aside0.mk (Kd.R_drew HO_15.out)
         replace BK853 := Aside0.mk (blk_drew BK853.out)
         replace HB := Aside0.mk (below_drew1 HB.out)
         have p864 : 0 ≤ (x16_2 : Int) := of_decide_eq_true (by first | (with_reducible assumption) | assumption)
         have q864 : x16_2 < (l1.length : Int) := of_decide_eq_true (by first | (with_reducible assumption) | assumption)
         obtain ⟨ad864, e864, hx864_0⟩ := Kd.at_int HR1.out x16_2 p864 q864
         have hw864_0 := hx864_0
         cases e864
         replace hx864_0 := hcell HB.out hx864_0
         replace p864 := eq_true p864
         replace q864 := eq_true q864
         refine start_ (n := 10) (S := fun w' => w'.cell? ⟨gb853, 0, none⟩ = some (.slice A0_0 l0_0.length c0_0) ∧ w'.cell? ⟨gb853, 1, none⟩ = some (.slice A0_1 l0_1.length c0_1) ∧ w'.cell? (ad864.add (x16_2).toNat) = some (.int .i64 (rd l1 x16_2))) (ds := []) (bl 10 0) (by kernel_rfl) rfl rfl ⟨(blk_cell BK853.out 0).trans rfl, (blk_cell BK853.out 1).trans rfl, (hcell HB.out hw864_0)⟩ (fun hHeld => ?_); refine with_tabW quinariaref02_Plan.tab17 quinariaref02_Plan.bits17 (fun HT_ HW_ => ?_)
         generalize wr.drew = w43 at HO_10 HO_13 HO_15 BK853 HB hx864_0 hHeld ⊢
         refine pu 1 62 10 2 ?_
         refine pu 2 63 10 6 ?_
         refine pu 3 64 10 14 ?_
         refine pu 4 65 10 30 ?_
         refine pu 6 67 10 94 ?_
         refine pu 7 68 10 222 ?_
         refine tk3 0 61 10 223 hHeld ?_
         refine tk3 5 66 10 255 hHeld ?_
         refine one_ (i := 8) (N := some 69) (bl 10 511) rfl rfl (one_of HT_.out (by kernel_rfl)) (by decide) (fun K hK => ?_)
         refine goes_ Tryz.func75 (by kernel_rfl) rfl #[.agg #[.slice A0_0 l0_0.length c0_0, .slice A0_1 l0_1.length c0_1], .int .i64 x16_2, .int .i64 (rd l1 x16_2), .int .i64 a2, .int .i64 a3] (by rfl) rfl rfl uM ?_
         with_reducible refine (quinariaref02_Last.calls k2 _ _ l0_0 _ _ l0_1 x16_2 (rd l1 x16_2) a2 a3 t865 _ ?side1 ?side2 ?side3 ?side4 A33.out).mono ?_
         (case side1 => exact uC (Kd.C_below HR0_0.out HB.out))
         (case side2 => exact HC0_0.out)
         (case side3 => exact uC (Kd.C_below HR0_1.out HB.out))
         (case side4 => exact HC0_1.out)
         rintro e w44 ⟨rfl, hb⟩
         refine ⟨_, rfl, ?_⟩
         replace HO_10 := Aside0.mk (Kd.Q_below (uQ HO_10.out) hb)
         replace HO_13 := Aside0.mk (Kd.R_below (uR HO_13.out) hb)
         replace HO_15 := Aside0.mk (Kd.R_below (uR HO_15.out) hb)
         replace BK853 := Aside0.mk (blk_below (uK BK853.out) hb)
         replace HB := Aside0.mk (below_step uB hb)
         (try clear hb)
         (try clear hb2)
         (try clear hk)
         (try clear hi)
         refine hK.out _ _ ⟨(blk_cell BK853.out 0).trans rfl, (blk_cell BK853.out 1).trans rfl, (hcell HB.out hw864_0)⟩ (fun hHeld => ?_)
         clear hK K
         refine nm ?_
         refine pu 9 70 10 1023 ?_
         refine done_ (done_of HT_.out (by kernel_rfl)) ?_
         obtain ⟨Ao45, co45, eo45, _⟩ := Kd.Q_slice HO_10.out
         subst eo45
         have p869 : 0 ≤ (0 : Int) := (by omega)
         have q869 : 0 < (x10_2.length : Int) := of_decide_eq_true (by first | (with_reducible assumption) | assumption)
         obtain ⟨ad869, e869, hx869_0⟩ := Kd.at_int (Kd.Q_reads' HO_10.out).2.2 0 p869 q869
         cases e869
         have qi869 : (0 < x10_2.length) = True := eq_true (by omega)
         (try rw [show ((0 : Int)).toNat = 0 from rfl] at hx869_0)
         (try rw [Addr.add_zero'] at hx869_0)
         replace p869 := eq_true p869
         replace q869 := eq_true q869
         have q46 : (1 : Int) ≤ ((x10_2.length : Int) : Int) := of_decide_eq_true (by first | (with_reducible assumption) | assumption)
         obtain ⟨i046, hi046, _, hsz46, _⟩ := info_parts info3
         have hcut46 := cut_from (P := Tryz.prog) 22 3 .i64 Tryz.underlying22 hi046 1 hsz46 (some ad869) x10_2.length co45 1 (by omega) q46
         have hr46 := Kd.Q_drop (k := (1 : Int).toNat) HO_10.out (by omega)
         obtain ⟨A46, hA46⟩ : ∃ A1, A1 = (if co45 = (1 : Int).toNat then (some ad869) else ((some ad869) : Option Addr).map (·.add ((1 : Int).toNat * 1))) := ⟨_, rfl⟩
         obtain ⟨c46, hc46⟩ : ∃ c1, c1 = co45 - (1 : Int).toNat := ⟨_, rfl⟩
         have hy46 : y870.length = x10_2.length - (1 : Int).toNat := (by rw [Ny870.out, List.length_drop])
         rw [← Ny870.out] at hr46
         rw [← hy46, ← hA46, ← hc46] at hcut46
         replace hr46 : Kd.Q (Kd.int .i64) 3 w44 w.heap.size (fun k_ => some k_ ≠ (u13 : Value).ownBlock ∧ some k_ ≠ (u15 : Value).ownBlock) (.slice A46 y870.length c46) y870 := (by rw [hA46, hc46, hy46]; exact hr46)
         have HE46 : Aside0 ((Value.slice A46 y870.length c46).ownBlock = (.slice (some ad869) x10_2.length co45 : Value).ownBlock) := ⟨by rw [hA46]; split <;> (cases ((some ad869) : Option Addr) <;> rfl)⟩
         clear hy46 hi046 hsz46 HO_10 hA46 hc46
         have HO872 := Aside0.mk hr46
         clear hr46
         replace q46 := eq_true q46
         have n_ := Aside0.mk (Kd.R_mono (ok' := fun k_ => (some k_ ≠ (.slice A46 y870.length c46 : Value).ownBlock ∧ some k_ ≠ (u15 : Value).ownBlock)) HO_13.out (fun k_ hk => ⟨(by rw [HE46.out]; exact hk.1), hk.2⟩))
         clear HO_13
         have HO_13 := n_
         clear n_
         have n_ := Aside0.mk (Kd.R_mono (ok' := fun k_ => (some k_ ≠ (.slice A46 y870.length c46 : Value).ownBlock ∧ some k_ ≠ (u13 : Value).ownBlock)) HO_15.out (fun k_ hk => ⟨(by rw [HE46.out]; exact hk.1), hk.2⟩))
         clear HO_15
         have HO_15 := n_
         clear n_
         try go_wp2
         go_loopg [18, 19] k2 (fun kq v18 v19 w' => ∃ (x18_3 : Int) (x19_3 : Int), v18 = .int .i64 x18_3 ∧ v19 = .int .i64 x19_3 ∧ Aside0 (quinariaref02_Plan.l2 kq l1 a2 a3 y870 x13_2 x15_2 x16_2 (rd x10_2 0) x18_3 x19_3 l0_0 l0_1 = some (r1, r2)) ∧ Aside0 (kq ≤ k2) ∧ Aside0 (Kd.Q (Kd.int .i64) 3 w' w.heap.size (fun k_ => some k_ ≠ (u13 : Value).ownBlock ∧ some k_ ≠ (u15 : Value).ownBlock) (.slice A46 y870.length c46) y870) ∧ Aside0 (Kd.R (Kd.int .i64) 3 w' w.heap.size (fun k_ => some k_ ≠ ((.slice A46 y870.length c46) : Value).ownBlock ∧ some k_ ≠ (u15 : Value).ownBlock) u13 x13_2) ∧ Aside0 (Kd.R (Kd.int .i64) 3 w' w.heap.size (fun k_ => some k_ ≠ ((.slice A46 y870.length c46) : Value).ownBlock ∧ some k_ ≠ (u13 : Value).ownBlock) u15 x15_2) ∧ Aside0 (w'.heap[gb853]? = some (.cells #[(.slice A0_0 l0_0.length c0_0), (.slice A0_1 l0_1.length c0_1)] 25 (0, 0))) ∧ Aside0 (Below w.heap.size w w'))
         case atStart => exact ⟨((-1)), (0), u0, u0, H', ⟨Nat.le_refl _⟩, ⟨uQ HO872.out⟩, ⟨uR HO_13.out⟩, ⟨uR HO_15.out⟩, ⟨uK BK853.out⟩, ⟨uB⟩⟩
         case round =>
          clear H'
          obtain ⟨x18_3, x19_3, rfl, rfl, HA, HK3, HO_10, HO_13, HO_15, BK853, HB⟩ := hrel
          cases gk with
          | zero => exact absurd HA.out (by simp [quinariaref02_Plan.l2])
          | succ k3 =>
           have H := HA.out
           clear HA
           simp only [quinariaref02_Plan.l2] at H
           by_cases c47 : x19_3 < (x13_2.length : Int)
           ·rw [if_pos c47] at H
            replace c47 := decide_eq_true c47
            obtain ⟨c48, H⟩ := ifs H
            replace c48 := decide_eq_true c48
            by_cases c49 : (rd x13_2 x19_3) ≤ (rd x10_2 0)
            ·rw [if_pos c49] at H
             replace c49 := decide_eq_true c49
             by_cases c50 : x18_3 < 0
             ·rw [if_pos c50] at H
              replace c50 := decide_eq_true c50
              replace H := Option.bind_eq_some_iff.mp H
              obtain ⟨t881, A510, H⟩ := H
              replace H : ((quinariaref02_fills.f k3 y870 t881).bind fun t884 => (if t884 = true then (quinariaref02_Plan.l2 k3 l1 a2 a3 y870 x13_2 x15_2 x16_2 (rd x10_2 0) x19_3 (wrap64 (x19_3 + 1)) l0_0 l0_1) else (quinariaref02_Plan.l2 k3 l1 a2 a3 y870 x13_2 x15_2 x16_2 (rd x10_2 0) x18_3 (wrap64 (x19_3 + 1)) l0_0 l0_1))) = some (r1, r2) := H
              have A51 := Aside0.mk A510
              clear A510
              replace H := Option.bind_eq_some_iff.mp H
              obtain ⟨t884, A520, H⟩ := H
              replace H : (if t884 = true then (quinariaref02_Plan.l2 k3 l1 a2 a3 y870 x13_2 x15_2 x16_2 (rd x10_2 0) x19_3 (wrap64 (x19_3 + 1)) l0_0 l0_1) else (quinariaref02_Plan.l2 k3 l1 a2 a3 y870 x13_2 x15_2 x16_2 (rd x10_2 0) x18_3 (wrap64 (x19_3 + 1)) l0_0 l0_1)) = some (r1, r2) := H
              have A52 := Aside0.mk A520
              clear A520
              by_cases c53 : t884 = true
              ·subst c53
               have H1 : (quinariaref02_Plan.l2 k3 l1 a2 a3 y870 x13_2 x15_2 x16_2 (rd x10_2 0) x19_3 (wrap64 (x19_3 + 1)) l0_0 l0_1) = some (r1, r2) := by rw [if_pos rfl] at H; exact H
               clear H
               have H := H1
               clear H1
               have H' := Aside0.mk H
               clear H
               obtain ⟨Ao54, co54, eo54⟩ := Kd.R_slice HO_13.out
               subst eo54
               try go_wp2
               replace HO_10 := Aside0.mk (Kd.Q_drew HO_10.out)
               replace HO_13 := Aside0.mk (Kd.R_drew HO_13.out)
               replace HO_15 := Aside0.mk (Kd.R_drew HO_15.out)
               replace BK853 := Aside0.mk (blk_drew BK853.out)
               replace HB := Aside0.mk (below_drew1 HB.out)
               have p880 : 0 ≤ (x19_3 : Int) := of_decide_eq_true (by first | (with_reducible assumption) | assumption)
               have q880 : x19_3 < (x13_2.length : Int) := of_decide_eq_true (by first | (with_reducible assumption) | assumption)
               obtain ⟨ad880, e880, hx880_0⟩ := Kd.at_int (Kd.R_reads' HO_13.out).2.2 x19_3 p880 q880
               cases e880
               replace p880 := eq_true p880
               replace q880 := eq_true q880
               refine start_ (n := 28) (S := fun w' => w'.cell? (ad880.add (x19_3).toNat) = some (.int .i64 (rd x13_2 x19_3))) (ds := []) (bl 28 0) (by kernel_rfl) rfl rfl (hx880_0) (fun hHeld => ?_); refine with_tabW quinariaref02_Plan.tab25 quinariaref02_Plan.bits25 (fun HT_ HW_ => ?_)
               generalize wr.drew = w55 at HO_10 HO_13 HO_15 BK853 HB hx880_0 hHeld ⊢
               refine pu 0 85 28 1 ?_
               refine pu 1 86 28 3 ?_
               refine pu 2 87 28 7 ?_
               refine pu 4 89 28 23 ?_
               refine tk1 3 88 28 31 hHeld ?_
               refine pu 5 90 28 63 ?_
               refine pu 6 91 28 127 ?_
               refine pu 7 92 28 255 ?_
               refine pu 8 93 28 511 ?_
               refine pu 9 94 28 1023 ?_
               refine pd 10 95 28 2047 ?_
               refine pd 11 96 28 4095 ?_
               refine pd 12 97 28 8191 ?_
               refine pd 13 98 28 16383 ?_
               refine pd 14 99 28 32767 ?_
               refine pd 15 100 28 65535 ?_
               refine pd 16 101 28 131071 ?_
               refine pd 17 102 28 262143 ?_
               refine pd 18 103 28 524287 ?_
               refine pu 19 104 28 1048575 ?_
               refine pu 20 105 28 2097151 ?_
               refine pu 21 106 28 4194303 ?_
               refine pu 22 107 28 8388607 ?_
               refine pu 23 108 28 16777215 ?_
               refine pu 24 109 28 33554431 ?_
               refine one_ (i := 25) (N := some 110) (bl 28 67108863) rfl rfl (one_of HT_.out (by kernel_rfl)) (by decide) (fun K hK => ?_)
               refine goes_ Tryz.func78 (by kernel_rfl) rfl #[.slice (some ad880) x13_2.length co54, .int .i64 x19_3] (by rfl) rfl rfl uM ?_
               with_reducible refine (quinariaref02_without.calls _ _ x13_2 x19_3 t881 _ ?side1 ?side2 A51.out).mono ?_
               (case side1 => exact uC ((Kd.R_reads' HO_13.out).2.2))
               (case side2 => exact (Kd.R_reads' HO_13.out).2.1)
               rintro e w56 ⟨v882, rfl, ho0, hb⟩
               have HS0_ := (hb.cell (World.block_lt_of_cell? _ _ (hHeld))).trans (hHeld)
               refine ⟨_, rfl, ?_⟩
               have n0_ := Aside0.mk (Kd.Q_elder' (uQ HO_10.out) (Kd.R_base ho0) hb)
               have n1_ := Aside0.mk (Kd.R_elder' (uR HO_13.out) (Kd.R_base ho0) hb)
               have n2_ := Aside0.mk (Kd.R_elder' (uR HO_15.out) (Kd.R_base ho0) hb)
               have n3_ := Aside0.mk (Kd.R_lower (Kd.R_new' (Kd.R_new' (Kd.R_new' ho0 (Kd.Q_lt (uQ HO_10.out))) (Kd.R_lt (uR HO_13.out))) (Kd.R_lt (uR HO_15.out))) (below_size uB))
               have n4_ := Aside0.mk (blk_below (uK BK853.out) hb)
               have n5_ := Aside0.mk (below_step uB hb)
               clear HO_10 HO_13 HO_15 BK853 HB
               have HO_10 := n0_
               have HO_13 := n1_
               have HO_15 := n2_
               have HO883 := n3_
               have BK853 := n4_
               have HB := n5_
               clear n0_ n1_ n2_ n3_ n4_ n5_
               (try clear hb)
               (try clear hb2)
               (try clear hk)
               (try clear hi)
               (try clear ho0)
               obtain ⟨Ao57, co57, eo57⟩ := Kd.R_slice HO883.out
               (first | subst eo57 | (injection eo57 with f1_ f2_ f3_; have f4_ := f1_.symm; have f5_ := f3_.symm; clear f1_ f2_ f3_; subst f4_; subst f5_))
               refine hK.out _ _ (HS0_) (fun hHeld => ?_)
               clear hK K
               refine nm ?_
               refine one_ (i := 26) (N := some 111) (bl 28 134217727) rfl rfl (one_of HT_.out (by kernel_rfl)) (by decide) (fun K hK => ?_)
               refine goes_ Tryz.func77 (by kernel_rfl) rfl #[.slice A46 y870.length c46, .slice Ao57 t881.length co57] (by rfl) rfl rfl uM ?_
               with_reducible refine (quinariaref02_fills.calls k3 _ _ y870 _ _ t881 true _ ?side1 ?side2 ?side3 ?side4 A52.out).mono ?_
               (case side1 => exact uC ((Kd.Q_reads' HO_10.out).2.2))
               (case side2 => exact (Kd.Q_reads' HO_10.out).2.1)
               (case side3 => exact uC ((Kd.R_reads' HO883.out).2.2))
               (case side4 => exact (Kd.R_reads' HO883.out).2.1)
               rintro e w' ⟨rfl, ⟨nd, rfl⟩⟩
               refine ⟨_, rfl, ?_⟩
               refine hK.out _ _ (hHeld) (fun hHeld => ?_)
               clear hK K
               refine nm ?_
               refine pu 27 112 28 268435455 ?_
               refine done_ (done_of HT_.out (by kernel_rfl)) ?_
               try go_wp2
               go_roundg k3
               case measure => have := HK1.out; have := HK2.out; have := HK3.out; omega
               case rel => exact ⟨(x19_3), (wrap64 (x19_3 + 1)), u0, u0, H', ⟨by have := HK1.out; have := HK2.out; have := HK3.out; omega⟩, ⟨by refine uQ ?_; exact Kd.Q_mono HO_10.out (fun _ hk => ⟨hk.1.1, hk.1.2⟩)⟩, ⟨by refine uR ?_; exact Kd.R_mono HO_13.out (fun _ hk => ⟨hk.1.1, hk.1.2⟩)⟩, ⟨by refine uR ?_; exact Kd.R_mono HO_15.out (fun _ hk => ⟨hk.1.1, hk.1.2⟩)⟩, ⟨uK BK853.out⟩, ⟨uB⟩⟩
              ·replace c53 := Bool.eq_false_iff.mpr c53
               subst c53
               have H1 : (quinariaref02_Plan.l2 k3 l1 a2 a3 y870 x13_2 x15_2 x16_2 (rd x10_2 0) x18_3 (wrap64 (x19_3 + 1)) l0_0 l0_1) = some (r1, r2) := by rw [if_neg (show ¬ (false = true) by decide)] at H; exact H
               clear H
               have H := H1
               clear H1
               have H' := Aside0.mk H
               clear H
               obtain ⟨Ao58, co58, eo58⟩ := Kd.R_slice HO_13.out
               subst eo58
               try go_wp2
               replace HO_10 := Aside0.mk (Kd.Q_drew HO_10.out)
               replace HO_13 := Aside0.mk (Kd.R_drew HO_13.out)
               replace HO_15 := Aside0.mk (Kd.R_drew HO_15.out)
               replace BK853 := Aside0.mk (blk_drew BK853.out)
               replace HB := Aside0.mk (below_drew1 HB.out)
               have p880 : 0 ≤ (x19_3 : Int) := of_decide_eq_true (by first | (with_reducible assumption) | assumption)
               have q880 : x19_3 < (x13_2.length : Int) := of_decide_eq_true (by first | (with_reducible assumption) | assumption)
               obtain ⟨ad880, e880, hx880_0⟩ := Kd.at_int (Kd.R_reads' HO_13.out).2.2 x19_3 p880 q880
               cases e880
               replace p880 := eq_true p880
               replace q880 := eq_true q880
               refine start_ (n := 28) (S := fun w' => w'.cell? (ad880.add (x19_3).toNat) = some (.int .i64 (rd x13_2 x19_3))) (ds := []) (bl 28 0) (by kernel_rfl) rfl rfl (hx880_0) (fun hHeld => ?_); refine with_tabW quinariaref02_Plan.tab25 quinariaref02_Plan.bits25 (fun HT_ HW_ => ?_)
               generalize wr.drew = w59 at HO_10 HO_13 HO_15 BK853 HB hx880_0 hHeld ⊢
               refine pu 0 85 28 1 ?_
               refine pu 1 86 28 3 ?_
               refine pu 2 87 28 7 ?_
               refine pu 4 89 28 23 ?_
               refine tk1 3 88 28 31 hHeld ?_
               refine pu 5 90 28 63 ?_
               refine pu 6 91 28 127 ?_
               refine pu 7 92 28 255 ?_
               refine pu 8 93 28 511 ?_
               refine pu 9 94 28 1023 ?_
               refine pd 10 95 28 2047 ?_
               refine pd 11 96 28 4095 ?_
               refine pd 12 97 28 8191 ?_
               refine pd 13 98 28 16383 ?_
               refine pd 14 99 28 32767 ?_
               refine pd 15 100 28 65535 ?_
               refine pd 16 101 28 131071 ?_
               refine pd 17 102 28 262143 ?_
               refine pd 18 103 28 524287 ?_
               refine pu 19 104 28 1048575 ?_
               refine pu 20 105 28 2097151 ?_
               refine pu 21 106 28 4194303 ?_
               refine pu 22 107 28 8388607 ?_
               refine pu 23 108 28 16777215 ?_
               refine pu 24 109 28 33554431 ?_
               refine one_ (i := 25) (N := some 110) (bl 28 67108863) rfl rfl (one_of HT_.out (by kernel_rfl)) (by decide) (fun K hK => ?_)
               refine goes_ Tryz.func78 (by kernel_rfl) rfl #[.slice (some ad880) x13_2.length co58, .int .i64 x19_3] (by rfl) rfl rfl uM ?_
               with_reducible refine (quinariaref02_without.calls _ _ x13_2 x19_3 t881 _ ?side1 ?side2 A51.out).mono ?_
               (case side1 => exact uC ((Kd.R_reads' HO_13.out).2.2))
               (case side2 => exact (Kd.R_reads' HO_13.out).2.1)
               rintro e w60 ⟨v882, rfl, ho0, hb⟩
               have HS0_ := (hb.cell (World.block_lt_of_cell? _ _ (hHeld))).trans (hHeld)
               refine ⟨_, rfl, ?_⟩
               have n0_ := Aside0.mk (Kd.Q_elder' (uQ HO_10.out) (Kd.R_base ho0) hb)
               have n1_ := Aside0.mk (Kd.R_elder' (uR HO_13.out) (Kd.R_base ho0) hb)
               have n2_ := Aside0.mk (Kd.R_elder' (uR HO_15.out) (Kd.R_base ho0) hb)
               have n3_ := Aside0.mk (Kd.R_lower (Kd.R_new' (Kd.R_new' (Kd.R_new' ho0 (Kd.Q_lt (uQ HO_10.out))) (Kd.R_lt (uR HO_13.out))) (Kd.R_lt (uR HO_15.out))) (below_size uB))
               have n4_ := Aside0.mk (blk_below (uK BK853.out) hb)
               have n5_ := Aside0.mk (below_step uB hb)
               clear HO_10 HO_13 HO_15 BK853 HB
               have HO_10 := n0_
               have HO_13 := n1_
               have HO_15 := n2_
               have HO883 := n3_
               have BK853 := n4_
               have HB := n5_
               clear n0_ n1_ n2_ n3_ n4_ n5_
               (try clear hb)
               (try clear hb2)
               (try clear hk)
               (try clear hi)
               (try clear ho0)
               obtain ⟨Ao61, co61, eo61⟩ := Kd.R_slice HO883.out
               (first | subst eo61 | (injection eo61 with f1_ f2_ f3_; have f4_ := f1_.symm; have f5_ := f3_.symm; clear f1_ f2_ f3_; subst f4_; subst f5_))
               refine hK.out _ _ (HS0_) (fun hHeld => ?_)
               clear hK K
               refine nm ?_
               refine one_ (i := 26) (N := some 111) (bl 28 134217727) rfl rfl (one_of HT_.out (by kernel_rfl)) (by decide) (fun K hK => ?_)
               refine goes_ Tryz.func77 (by kernel_rfl) rfl #[.slice A46 y870.length c46, .slice Ao61 t881.length co61] (by rfl) rfl rfl uM ?_
               with_reducible refine (quinariaref02_fills.calls k3 _ _ y870 _ _ t881 false _ ?side1 ?side2 ?side3 ?side4 A52.out).mono ?_
               (case side1 => exact uC ((Kd.Q_reads' HO_10.out).2.2))
               (case side2 => exact (Kd.Q_reads' HO_10.out).2.1)
               (case side3 => exact uC ((Kd.R_reads' HO883.out).2.2))
               (case side4 => exact (Kd.R_reads' HO883.out).2.1)
               rintro e w' ⟨rfl, ⟨nd, rfl⟩⟩
               refine ⟨_, rfl, ?_⟩
               refine hK.out _ _ (hHeld) (fun hHeld => ?_)
               clear hK K
               refine nm ?_
               refine pu 27 112 28 268435455 ?_
               refine done_ (done_of HT_.out (by kernel_rfl)) ?_
               try go_wp2
               go_roundg k3
               case measure => have := HK1.out; have := HK2.out; have := HK3.out; omega
               case rel => exact ⟨(x18_3), (wrap64 (x19_3 + 1)), u0, u0, H', ⟨by have := HK1.out; have := HK2.out; have := HK3.out; omega⟩, ⟨by refine uQ ?_; exact Kd.Q_mono HO_10.out (fun _ hk => ⟨hk.1.1, hk.1.2⟩)⟩, ⟨by refine uR ?_; exact Kd.R_mono HO_13.out (fun _ hk => ⟨hk.1.1, hk.1.2⟩)⟩, ⟨by refine uR ?_; exact Kd.R_mono HO_15.out (fun _ hk => ⟨hk.1.1, hk.1.2⟩)⟩, ⟨uK BK853.out⟩, ⟨uB⟩⟩
             ·rw [if_neg c50] at H
              replace c50 := decide_eq_false c50
              obtain ⟨c62, H⟩ := ifs H
              replace c62 := decide_eq_true c62
              obtain ⟨c63, H⟩ := ifs H
              replace c63 := decide_eq_true c63
              by_cases c64 : (rd x13_2 x19_3) < (rd x13_2 x18_3)
              ·rw [if_pos c64] at H
               replace c64 := decide_eq_true c64
               replace H := Option.bind_eq_some_iff.mp H
               obtain ⟨t887, A650, H⟩ := H
               replace H : ((quinariaref02_fills.f k3 y870 t887).bind fun t890 => (if t890 = true then (quinariaref02_Plan.l2 k3 l1 a2 a3 y870 x13_2 x15_2 x16_2 (rd x10_2 0) x19_3 (wrap64 (x19_3 + 1)) l0_0 l0_1) else (quinariaref02_Plan.l2 k3 l1 a2 a3 y870 x13_2 x15_2 x16_2 (rd x10_2 0) x18_3 (wrap64 (x19_3 + 1)) l0_0 l0_1))) = some (r1, r2) := H
               have A65 := Aside0.mk A650
               clear A650
               replace H := Option.bind_eq_some_iff.mp H
               obtain ⟨t890, A660, H⟩ := H
               replace H : (if t890 = true then (quinariaref02_Plan.l2 k3 l1 a2 a3 y870 x13_2 x15_2 x16_2 (rd x10_2 0) x19_3 (wrap64 (x19_3 + 1)) l0_0 l0_1) else (quinariaref02_Plan.l2 k3 l1 a2 a3 y870 x13_2 x15_2 x16_2 (rd x10_2 0) x18_3 (wrap64 (x19_3 + 1)) l0_0 l0_1)) = some (r1, r2) := H
               have A66 := Aside0.mk A660
               clear A660
               by_cases c67 : t890 = true
               ·subst c67
                have H1 : (quinariaref02_Plan.l2 k3 l1 a2 a3 y870 x13_2 x15_2 x16_2 (rd x10_2 0) x19_3 (wrap64 (x19_3 + 1)) l0_0 l0_1) = some (r1, r2) := by rw [if_pos rfl] at H; exact H
                clear H
                have H := H1
                clear H1
                have H' := Aside0.mk H
                clear H
                obtain ⟨Ao68, co68, eo68⟩ := Kd.R_slice HO_13.out
                subst eo68
                try go_wp2
                replace HO_10 := Aside0.mk (Kd.Q_drew HO_10.out)
                replace HO_13 := Aside0.mk (Kd.R_drew HO_13.out)
                replace HO_15 := Aside0.mk (Kd.R_drew HO_15.out)
                replace BK853 := Aside0.mk (blk_drew BK853.out)
                replace HB := Aside0.mk (below_drew1 HB.out)
                have p880 : 0 ≤ (x19_3 : Int) := of_decide_eq_true (by first | (with_reducible assumption) | assumption)
                have q880 : x19_3 < (x13_2.length : Int) := of_decide_eq_true (by first | (with_reducible assumption) | assumption)
                obtain ⟨ad880, e880, hx880_0⟩ := Kd.at_int (Kd.R_reads' HO_13.out).2.2 x19_3 p880 q880
                cases e880
                replace p880 := eq_true p880
                replace q880 := eq_true q880
                have p885 : 0 ≤ (x19_3 : Int) := of_decide_eq_true (by first | (with_reducible assumption) | assumption)
                have q885 : x19_3 < (x13_2.length : Int) := of_decide_eq_true (by first | (with_reducible assumption) | assumption)
                obtain ⟨ad885, e885, hx885_0⟩ := Kd.at_int (Kd.R_reads' HO_13.out).2.2 x19_3 p885 q885
                obtain rfl : ad880 = ad885 := (by injection e885)
                replace p885 := eq_true p885
                replace q885 := eq_true q885
                have p886 : 0 ≤ (x18_3 : Int) := of_decide_eq_true (by first | (with_reducible assumption) | assumption)
                have q886 : x18_3 < (x13_2.length : Int) := of_decide_eq_true (by first | (with_reducible assumption) | assumption)
                obtain ⟨ad886, e886, hx886_0⟩ := Kd.at_int (Kd.R_reads' HO_13.out).2.2 x18_3 p886 q886
                obtain rfl : ad880 = ad886 := (by injection e886)
                replace p886 := eq_true p886
                replace q886 := eq_true q886
                refine start_ (n := 28) (S := fun w' => w'.cell? (ad880.add (x19_3).toNat) = some (.int .i64 (rd x13_2 x19_3)) ∧ w'.cell? (ad880.add (x19_3).toNat) = some (.int .i64 (rd x13_2 x19_3)) ∧ w'.cell? (ad880.add (x18_3).toNat) = some (.int .i64 (rd x13_2 x18_3))) (ds := []) (bl 28 0) (by kernel_rfl) rfl rfl ⟨hx880_0, hx885_0, hx886_0⟩ (fun hHeld => ?_); refine with_tabW quinariaref02_Plan.tab25 quinariaref02_Plan.bits25 (fun HT_ HW_ => ?_)
                generalize wr.drew = w69 at HO_10 HO_13 HO_15 BK853 HB hx880_0 hx885_0 hx886_0 hHeld ⊢
                refine pu 0 85 28 1 ?_
                refine pu 1 86 28 3 ?_
                refine pu 2 87 28 7 ?_
                refine pu 4 89 28 23 ?_
                refine tk3 3 88 28 31 hHeld ?_
                refine pu 5 90 28 63 ?_
                refine pu 6 91 28 127 ?_
                refine pu 7 92 28 255 ?_
                refine pu 8 93 28 511 ?_
                refine pu 9 94 28 1023 ?_
                refine pu 10 95 28 2047 ?_
                refine pu 11 96 28 4095 ?_
                refine pu 12 97 28 8191 ?_
                refine pu 14 99 28 24575 ?_
                refine pu 15 100 28 57343 ?_
                refine pu 16 101 28 122879 ?_
                refine tk3 13 98 28 131071 hHeld ?_
                refine tk3 17 102 28 262143 hHeld ?_
                refine pu 18 103 28 524287 ?_
                refine pu 19 104 28 1048575 ?_
                refine pu 20 105 28 2097151 ?_
                refine pu 21 106 28 4194303 ?_
                refine pu 22 107 28 8388607 ?_
                refine pu 23 108 28 16777215 ?_
                refine pu 24 109 28 33554431 ?_
                refine one_ (i := 25) (N := some 110) (bl 28 67108863) rfl rfl (one_of HT_.out (by kernel_rfl)) (by decide) (fun K hK => ?_)
                refine goes_ Tryz.func78 (by kernel_rfl) rfl #[.slice (some ad880) x13_2.length co68, .int .i64 x19_3] (by rfl) rfl rfl uM ?_
                with_reducible refine (quinariaref02_without.calls _ _ x13_2 x19_3 t887 _ ?side1 ?side2 A65.out).mono ?_
                (case side1 => exact uC ((Kd.R_reads' HO_13.out).2.2))
                (case side2 => exact (Kd.R_reads' HO_13.out).2.1)
                rintro e w70 ⟨v888, rfl, ho0, hb⟩
                have HS0_ := (hb.cell (World.block_lt_of_cell? _ _ (hHeld.1))).trans (hHeld.1)
                have HS1_ := (hb.cell (World.block_lt_of_cell? _ _ (hHeld.2.1))).trans (hHeld.2.1)
                have HS2_ := (hb.cell (World.block_lt_of_cell? _ _ (hHeld.2.2))).trans (hHeld.2.2)
                refine ⟨_, rfl, ?_⟩
                have n0_ := Aside0.mk (Kd.Q_elder' (uQ HO_10.out) (Kd.R_base ho0) hb)
                have n1_ := Aside0.mk (Kd.R_elder' (uR HO_13.out) (Kd.R_base ho0) hb)
                have n2_ := Aside0.mk (Kd.R_elder' (uR HO_15.out) (Kd.R_base ho0) hb)
                have n3_ := Aside0.mk (Kd.R_lower (Kd.R_new' (Kd.R_new' (Kd.R_new' ho0 (Kd.Q_lt (uQ HO_10.out))) (Kd.R_lt (uR HO_13.out))) (Kd.R_lt (uR HO_15.out))) (below_size uB))
                have n4_ := Aside0.mk (blk_below (uK BK853.out) hb)
                have n5_ := Aside0.mk (below_step uB hb)
                clear HO_10 HO_13 HO_15 BK853 HB
                have HO_10 := n0_
                have HO_13 := n1_
                have HO_15 := n2_
                have HO889 := n3_
                have BK853 := n4_
                have HB := n5_
                clear n0_ n1_ n2_ n3_ n4_ n5_
                (try clear hb)
                (try clear hb2)
                (try clear hk)
                (try clear hi)
                (try clear ho0)
                obtain ⟨Ao71, co71, eo71⟩ := Kd.R_slice HO889.out
                (first | subst eo71 | (injection eo71 with f1_ f2_ f3_; have f4_ := f1_.symm; have f5_ := f3_.symm; clear f1_ f2_ f3_; subst f4_; subst f5_))
                refine hK.out _ _ ⟨HS0_, HS1_, HS2_⟩ (fun hHeld => ?_)
                clear hK K
                refine nm ?_
                refine one_ (i := 26) (N := some 111) (bl 28 134217727) rfl rfl (one_of HT_.out (by kernel_rfl)) (by decide) (fun K hK => ?_)
                refine goes_ Tryz.func77 (by kernel_rfl) rfl #[.slice A46 y870.length c46, .slice Ao71 t887.length co71] (by rfl) rfl rfl uM ?_
                with_reducible refine (quinariaref02_fills.calls k3 _ _ y870 _ _ t887 true _ ?side1 ?side2 ?side3 ?side4 A66.out).mono ?_
                (case side1 => exact uC ((Kd.Q_reads' HO_10.out).2.2))
                (case side2 => exact (Kd.Q_reads' HO_10.out).2.1)
                (case side3 => exact uC ((Kd.R_reads' HO889.out).2.2))
                (case side4 => exact (Kd.R_reads' HO889.out).2.1)
                rintro e w' ⟨rfl, ⟨nd, rfl⟩⟩
                refine ⟨_, rfl, ?_⟩
                refine hK.out _ _ ⟨hHeld.1, hHeld.2.1, hHeld.2.2⟩ (fun hHeld => ?_)
                clear hK K
                refine nm ?_
                refine pu 27 112 28 268435455 ?_
                refine done_ (done_of HT_.out (by kernel_rfl)) ?_
                try go_wp2
                go_roundg k3
                case measure => have := HK1.out; have := HK2.out; have := HK3.out; omega
                case rel => exact ⟨(x19_3), (wrap64 (x19_3 + 1)), u0, u0, H', ⟨by have := HK1.out; have := HK2.out; have := HK3.out; omega⟩, ⟨by refine uQ ?_; exact Kd.Q_mono HO_10.out (fun _ hk => ⟨hk.1.1, hk.1.2⟩)⟩, ⟨by refine uR ?_; exact Kd.R_mono HO_13.out (fun _ hk => ⟨hk.1.1, hk.1.2⟩)⟩, ⟨by refine uR ?_; exact Kd.R_mono HO_15.out (fun _ hk => ⟨hk.1.1, hk.1.2⟩)⟩, ⟨uK BK853.out⟩, ⟨uB⟩⟩
               ·replace c67 := Bool.eq_false_iff.mpr c67
                subst c67
                have H1 : (quinariaref02_Plan.l2 k3 l1 a2 a3 y870 x13_2 x15_2 x16_2 (rd x10_2 0) x18_3 (wrap64 (x19_3 + 1)) l0_0 l0_1) = some (r1, r2) := by rw [if_neg (show ¬ (false = true) by decide)] at H; exact H
                clear H
                have H := H1
                clear H1
                have H' := Aside0.mk H
                clear H
                obtain ⟨Ao72, co72, eo72⟩ := Kd.R_slice HO_13.out
                subst eo72
                try go_wp2
                replace HO_10 := Aside0.mk (Kd.Q_drew HO_10.out)
                replace HO_13 := Aside0.mk (Kd.R_drew HO_13.out)
                replace HO_15 := Aside0.mk (Kd.R_drew HO_15.out)
                replace BK853 := Aside0.mk (blk_drew BK853.out)
                replace HB := Aside0.mk (below_drew1 HB.out)
                have p880 : 0 ≤ (x19_3 : Int) := of_decide_eq_true (by first | (with_reducible assumption) | assumption)
                have q880 : x19_3 < (x13_2.length : Int) := of_decide_eq_true (by first | (with_reducible assumption) | assumption)
                obtain ⟨ad880, e880, hx880_0⟩ := Kd.at_int (Kd.R_reads' HO_13.out).2.2 x19_3 p880 q880
                cases e880
                replace p880 := eq_true p880
                replace q880 := eq_true q880
                have p885 : 0 ≤ (x19_3 : Int) := of_decide_eq_true (by first | (with_reducible assumption) | assumption)
                have q885 : x19_3 < (x13_2.length : Int) := of_decide_eq_true (by first | (with_reducible assumption) | assumption)
                obtain ⟨ad885, e885, hx885_0⟩ := Kd.at_int (Kd.R_reads' HO_13.out).2.2 x19_3 p885 q885
                obtain rfl : ad880 = ad885 := (by injection e885)
                replace p885 := eq_true p885
                replace q885 := eq_true q885
                have p886 : 0 ≤ (x18_3 : Int) := of_decide_eq_true (by first | (with_reducible assumption) | assumption)
                have q886 : x18_3 < (x13_2.length : Int) := of_decide_eq_true (by first | (with_reducible assumption) | assumption)
                obtain ⟨ad886, e886, hx886_0⟩ := Kd.at_int (Kd.R_reads' HO_13.out).2.2 x18_3 p886 q886
                obtain rfl : ad880 = ad886 := (by injection e886)
                replace p886 := eq_true p886
                replace q886 := eq_true q886
                refine start_ (n := 28) (S := fun w' => w'.cell? (ad880.add (x19_3).toNat) = some (.int .i64 (rd x13_2 x19_3)) ∧ w'.cell? (ad880.add (x19_3).toNat) = some (.int .i64 (rd x13_2 x19_3)) ∧ w'.cell? (ad880.add (x18_3).toNat) = some (.int .i64 (rd x13_2 x18_3))) (ds := []) (bl 28 0) (by kernel_rfl) rfl rfl ⟨hx880_0, hx885_0, hx886_0⟩ (fun hHeld => ?_); refine with_tabW quinariaref02_Plan.tab25 quinariaref02_Plan.bits25 (fun HT_ HW_ => ?_)
                generalize wr.drew = w73 at HO_10 HO_13 HO_15 BK853 HB hx880_0 hx885_0 hx886_0 hHeld ⊢
                refine pu 0 85 28 1 ?_
                refine pu 1 86 28 3 ?_
                refine pu 2 87 28 7 ?_
                refine pu 4 89 28 23 ?_
                refine tk3 3 88 28 31 hHeld ?_
                refine pu 5 90 28 63 ?_
                refine pu 6 91 28 127 ?_
                refine pu 7 92 28 255 ?_
                refine pu 8 93 28 511 ?_
                refine pu 9 94 28 1023 ?_
                refine pu 10 95 28 2047 ?_
                refine pu 11 96 28 4095 ?_
                refine pu 12 97 28 8191 ?_
                refine pu 14 99 28 24575 ?_
                refine pu 15 100 28 57343 ?_
                refine pu 16 101 28 122879 ?_
                refine tk3 13 98 28 131071 hHeld ?_
                refine tk3 17 102 28 262143 hHeld ?_
                refine pu 18 103 28 524287 ?_
                refine pu 19 104 28 1048575 ?_
                refine pu 20 105 28 2097151 ?_
                refine pu 21 106 28 4194303 ?_
                refine pu 22 107 28 8388607 ?_
                refine pu 23 108 28 16777215 ?_
                refine pu 24 109 28 33554431 ?_
                refine one_ (i := 25) (N := some 110) (bl 28 67108863) rfl rfl (one_of HT_.out (by kernel_rfl)) (by decide) (fun K hK => ?_)
                refine goes_ Tryz.func78 (by kernel_rfl) rfl #[.slice (some ad880) x13_2.length co72, .int .i64 x19_3] (by rfl) rfl rfl uM ?_
                with_reducible refine (quinariaref02_without.calls _ _ x13_2 x19_3 t887 _ ?side1 ?side2 A65.out).mono ?_
                (case side1 => exact uC ((Kd.R_reads' HO_13.out).2.2))
                (case side2 => exact (Kd.R_reads' HO_13.out).2.1)
                rintro e w74 ⟨v888, rfl, ho0, hb⟩
                have HS0_ := (hb.cell (World.block_lt_of_cell? _ _ (hHeld.1))).trans (hHeld.1)
                have HS1_ := (hb.cell (World.block_lt_of_cell? _ _ (hHeld.2.1))).trans (hHeld.2.1)
                have HS2_ := (hb.cell (World.block_lt_of_cell? _ _ (hHeld.2.2))).trans (hHeld.2.2)
                refine ⟨_, rfl, ?_⟩
                have n0_ := Aside0.mk (Kd.Q_elder' (uQ HO_10.out) (Kd.R_base ho0) hb)
                have n1_ := Aside0.mk (Kd.R_elder' (uR HO_13.out) (Kd.R_base ho0) hb)
                have n2_ := Aside0.mk (Kd.R_elder' (uR HO_15.out) (Kd.R_base ho0) hb)
                have n3_ := Aside0.mk (Kd.R_lower (Kd.R_new' (Kd.R_new' (Kd.R_new' ho0 (Kd.Q_lt (uQ HO_10.out))) (Kd.R_lt (uR HO_13.out))) (Kd.R_lt (uR HO_15.out))) (below_size uB))
                have n4_ := Aside0.mk (blk_below (uK BK853.out) hb)
                have n5_ := Aside0.mk (below_step uB hb)
                clear HO_10 HO_13 HO_15 BK853 HB
                have HO_10 := n0_
                have HO_13 := n1_
                have HO_15 := n2_
                have HO889 := n3_
                have BK853 := n4_
                have HB := n5_
                clear n0_ n1_ n2_ n3_ n4_ n5_
                (try clear hb)
                (try clear hb2)
                (try clear hk)
                (try clear hi)
                (try clear ho0)
                obtain ⟨Ao75, co75, eo75⟩ := Kd.R_slice HO889.out
                (first | subst eo75 | (injection eo75 with f1_ f2_ f3_; have f4_ := f1_.symm; have f5_ := f3_.symm; clear f1_ f2_ f3_; subst f4_; subst f5_))
                refine hK.out _ _ ⟨HS0_, HS1_, HS2_⟩ (fun hHeld => ?_)
                clear hK K
                refine nm ?_
                refine one_ (i := 26) (N := some 111) (bl 28 134217727) rfl rfl (one_of HT_.out (by kernel_rfl)) (by decide) (fun K hK => ?_)
                refine goes_ Tryz.func77 (by kernel_rfl) rfl #[.slice A46 y870.length c46, .slice Ao75 t887.length co75] (by rfl) rfl rfl uM ?_
                with_reducible refine (quinariaref02_fills.calls k3 _ _ y870 _ _ t887 false _ ?side1 ?side2 ?side3 ?side4 A66.out).mono ?_
                (case side1 => exact uC ((Kd.Q_reads' HO_10.out).2.2))
                (case side2 => exact (Kd.Q_reads' HO_10.out).2.1)
                (case side3 => exact uC ((Kd.R_reads' HO889.out).2.2))
                (case side4 => exact (Kd.R_reads' HO889.out).2.1)
                rintro e w' ⟨rfl, ⟨nd, rfl⟩⟩
                refine ⟨_, rfl, ?_⟩
                refine hK.out _ _ ⟨hHeld.1, hHeld.2.1, hHeld.2.2⟩ (fun hHeld => ?_)
                clear hK K
                refine nm ?_
                refine pu 27 112 28 268435455 ?_
                refine done_ (done_of HT_.out (by kernel_rfl)) ?_
                try go_wp2
                go_roundg k3
                case measure => have := HK1.out; have := HK2.out; have := HK3.out; omega
                case rel => exact ⟨(x18_3), (wrap64 (x19_3 + 1)), u0, u0, H', ⟨by have := HK1.out; have := HK2.out; have := HK3.out; omega⟩, ⟨by refine uQ ?_; exact Kd.Q_mono HO_10.out (fun _ hk => ⟨hk.1.1, hk.1.2⟩)⟩, ⟨by refine uR ?_; exact Kd.R_mono HO_13.out (fun _ hk => ⟨hk.1.1, hk.1.2⟩)⟩, ⟨by refine uR ?_; exact Kd.R_mono HO_15.out (fun _ hk => ⟨hk.1.1, hk.1.2⟩)⟩, ⟨uK BK853.out⟩, ⟨uB⟩⟩
              ·rw [if_neg c64] at H
               replace c64 := decide_eq_false c64
               have H' := Aside0.mk H
               clear H
               obtain ⟨Ao76, co76, eo76⟩ := Kd.R_slice HO_13.out
               subst eo76
               try go_wp2
               replace HO_10 := Aside0.mk (Kd.Q_drew HO_10.out)
               replace HO_13 := Aside0.mk (Kd.R_drew HO_13.out)
               replace HO_15 := Aside0.mk (Kd.R_drew HO_15.out)
               replace BK853 := Aside0.mk (blk_drew BK853.out)
               replace HB := Aside0.mk (below_drew1 HB.out)
               have p880 : 0 ≤ (x19_3 : Int) := of_decide_eq_true (by first | (with_reducible assumption) | assumption)
               have q880 : x19_3 < (x13_2.length : Int) := of_decide_eq_true (by first | (with_reducible assumption) | assumption)
               obtain ⟨ad880, e880, hx880_0⟩ := Kd.at_int (Kd.R_reads' HO_13.out).2.2 x19_3 p880 q880
               cases e880
               replace p880 := eq_true p880
               replace q880 := eq_true q880
               have p885 : 0 ≤ (x19_3 : Int) := of_decide_eq_true (by first | (with_reducible assumption) | assumption)
               have q885 : x19_3 < (x13_2.length : Int) := of_decide_eq_true (by first | (with_reducible assumption) | assumption)
               obtain ⟨ad885, e885, hx885_0⟩ := Kd.at_int (Kd.R_reads' HO_13.out).2.2 x19_3 p885 q885
               obtain rfl : ad880 = ad885 := (by injection e885)
               replace p885 := eq_true p885
               replace q885 := eq_true q885
               have p886 : 0 ≤ (x18_3 : Int) := of_decide_eq_true (by first | (with_reducible assumption) | assumption)
               have q886 : x18_3 < (x13_2.length : Int) := of_decide_eq_true (by first | (with_reducible assumption) | assumption)
               obtain ⟨ad886, e886, hx886_0⟩ := Kd.at_int (Kd.R_reads' HO_13.out).2.2 x18_3 p886 q886
               obtain rfl : ad880 = ad886 := (by injection e886)
               replace p886 := eq_true p886
               replace q886 := eq_true q886
               refine start_ (n := 28) (S := fun w' => w'.cell? (ad880.add (x19_3).toNat) = some (.int .i64 (rd x13_2 x19_3)) ∧ w'.cell? (ad880.add (x19_3).toNat) = some (.int .i64 (rd x13_2 x19_3)) ∧ w'.cell? (ad880.add (x18_3).toNat) = some (.int .i64 (rd x13_2 x18_3))) (ds := []) (bl 28 0) (by kernel_rfl) rfl rfl ⟨hx880_0, hx885_0, hx886_0⟩ (fun hHeld => ?_); refine with_tabW quinariaref02_Plan.tab25 quinariaref02_Plan.bits25 (fun HT_ HW_ => ?_)
               generalize wr.drew = w77 at HO_10 HO_13 HO_15 BK853 HB hx880_0 hx885_0 hx886_0 hHeld ⊢
               refine pu 0 85 28 1 ?_
               refine pu 1 86 28 3 ?_
               refine pu 2 87 28 7 ?_
               refine pu 4 89 28 23 ?_
               refine tk3 3 88 28 31 hHeld ?_
               refine pu 5 90 28 63 ?_
               refine pu 6 91 28 127 ?_
               refine pu 7 92 28 255 ?_
               refine pu 8 93 28 511 ?_
               refine pu 9 94 28 1023 ?_
               refine pu 10 95 28 2047 ?_
               refine pu 11 96 28 4095 ?_
               refine pu 12 97 28 8191 ?_
               refine pu 14 99 28 24575 ?_
               refine pu 15 100 28 57343 ?_
               refine pu 16 101 28 122879 ?_
               refine tk3 13 98 28 131071 hHeld ?_
               refine tk3 17 102 28 262143 hHeld ?_
               refine pu 18 103 28 524287 ?_
               refine pu 19 104 28 1048575 ?_
               refine pu 20 105 28 2097151 ?_
               refine pu 21 106 28 4194303 ?_
               refine pd 22 107 28 8388607 ?_
               refine pd 23 108 28 16777215 ?_
               refine pd 24 109 28 33554431 ?_
               refine pd 25 110 28 67108863 ?_
               refine pd 26 111 28 134217727 ?_
               refine pu 27 112 28 268435455 ?_
               refine done_ (done_of HT_.out (by kernel_rfl)) ?_
               try go_wp2
               go_roundg k3
               case measure => have := HK1.out; have := HK2.out; have := HK3.out; omega
               case rel => exact ⟨(x18_3), (wrap64 (x19_3 + 1)), u0, u0, H', ⟨by have := HK1.out; have := HK2.out; have := HK3.out; omega⟩, ⟨uQ HO_10.out⟩, ⟨uR HO_13.out⟩, ⟨uR HO_15.out⟩, ⟨uK BK853.out⟩, ⟨uB⟩⟩
            ·rw [if_neg c49] at H
             replace c49 := decide_eq_false c49
             have H' := Aside0.mk H
             clear H
             obtain ⟨Ao78, co78, eo78⟩ := Kd.R_slice HO_13.out
             subst eo78
             try go_wp2
             replace HO_10 := Aside0.mk (Kd.Q_drew HO_10.out)
             replace HO_13 := Aside0.mk (Kd.R_drew HO_13.out)
             replace HO_15 := Aside0.mk (Kd.R_drew HO_15.out)
             replace BK853 := Aside0.mk (blk_drew BK853.out)
             replace HB := Aside0.mk (below_drew1 HB.out)
             have p880 : 0 ≤ (x19_3 : Int) := of_decide_eq_true (by first | (with_reducible assumption) | assumption)
             have q880 : x19_3 < (x13_2.length : Int) := of_decide_eq_true (by first | (with_reducible assumption) | assumption)
             obtain ⟨ad880, e880, hx880_0⟩ := Kd.at_int (Kd.R_reads' HO_13.out).2.2 x19_3 p880 q880
             cases e880
             replace p880 := eq_true p880
             replace q880 := eq_true q880
             refine start_ (n := 28) (S := fun w' => w'.cell? (ad880.add (x19_3).toNat) = some (.int .i64 (rd x13_2 x19_3))) (ds := []) (bl 28 0) (by kernel_rfl) rfl rfl (hx880_0) (fun hHeld => ?_); refine with_tabW quinariaref02_Plan.tab25 quinariaref02_Plan.bits25 (fun HT_ HW_ => ?_)
             generalize wr.drew = w79 at HO_10 HO_13 HO_15 BK853 HB hx880_0 hHeld ⊢
             refine pu 0 85 28 1 ?_
             refine pu 1 86 28 3 ?_
             refine pu 2 87 28 7 ?_
             refine pu 4 89 28 23 ?_
             refine tk1 3 88 28 31 hHeld ?_
             refine pu 5 90 28 63 ?_
             refine pu 6 91 28 127 ?_
             refine pd 7 92 28 255 ?_
             refine pd 8 93 28 511 ?_
             refine pd 9 94 28 1023 ?_
             refine pd 10 95 28 2047 ?_
             refine pd 11 96 28 4095 ?_
             refine pd 12 97 28 8191 ?_
             refine pd 13 98 28 16383 ?_
             refine pd 14 99 28 32767 ?_
             refine pd 15 100 28 65535 ?_
             refine pd 16 101 28 131071 ?_
             refine pd 17 102 28 262143 ?_
             refine pd 18 103 28 524287 ?_
             refine pd 19 104 28 1048575 ?_
             refine pu 20 105 28 2097151 ?_
             refine pu 21 106 28 4194303 ?_
             refine pd 22 107 28 8388607 ?_
             refine pd 23 108 28 16777215 ?_
             refine pd 24 109 28 33554431 ?_
             refine pd 25 110 28 67108863 ?_
             refine pd 26 111 28 134217727 ?_
             refine pu 27 112 28 268435455 ?_
             refine done_ (done_of HT_.out (by kernel_rfl)) ?_
             try go_wp2
             go_roundg k3
             case measure => have := HK1.out; have := HK2.out; have := HK3.out; omega
             case rel => exact ⟨(x18_3), (wrap64 (x19_3 + 1)), u0, u0, H', ⟨by have := HK1.out; have := HK2.out; have := HK3.out; omega⟩, ⟨uQ HO_10.out⟩, ⟨uR HO_13.out⟩, ⟨uR HO_15.out⟩, ⟨uK BK853.out⟩, ⟨uB⟩⟩
           ·rw [if_neg c47] at H
            replace c47 := decide_eq_false c47
            obtain ⟨c80, H⟩ := ifs H
            replace c80 := decide_eq_true c80
            obtain ⟨c81, H⟩ := ifs H
            replace c81 := decide_eq_true c81
            obtain ⟨c82, H⟩ := ifs H
            have LMc82 := Aside0.mk c82
            clear c82
            obtain ⟨y874, hy874⟩ : ∃ y_ : List Int, y_ = (x15_2 ++ [rd x13_2 x18_3]) := ⟨_, rfl⟩
            rw [← hy874] at H
            have Ny874 := Aside0.mk hy874
            clear hy874
            replace H := Option.bind_eq_some_iff.mp H
            obtain ⟨t877, A830, H⟩ := H
            replace H : (quinariaref02_Plan.l1 k3 l1 a2 a3 y870 t877 y874 (wrap64 (x16_2 + 1)) l0_0 l0_1) = some (r1, r2) := H
            have A83 := Aside0.mk A830
            clear A830
            have H' := Aside0.mk H
            clear H
            obtain ⟨Ao84, co84, eo84⟩ := Kd.R_slice HO_13.out
            subst eo84
            have p873 : 0 ≤ (x18_3 : Int) := of_decide_eq_true (by first | (with_reducible assumption) | assumption)
            have q873 : x18_3 < (x13_2.length : Int) := of_decide_eq_true (by first | (with_reducible assumption) | assumption)
            obtain ⟨ad873, e873, hx873_0⟩ := Kd.at_int (Kd.R_reads' HO_13.out).2.2 x18_3 p873 q873
            cases e873
            replace p873 := eq_true p873
            replace q873 := eq_true q873
            go_wp2_with (first | ((with_reducible refine gate_builtin (b := .append) (xs := #[.tmp 114, .tmp 119]) rfl ?_); at_builtin; refine Kd.R_append (Kd.int .i64) (w0 := w) w.heap.size rfl (.tmp 114) (.tmp 119) 22 3 (.int .i64 0) 8 rfl Tryz.underlying22 info3 rfl (by decide) (by omega) u15 x15_2 (rd x13_2 x18_3) [.int .i64 (rd x13_2 x18_3)] (fun k_ => some k_ ≠ (.slice A46 y870.length c46 : Value).ownBlock ∧ some k_ ≠ (.slice (some ad873) x13_2.length co84 : Value).ownBlock) (fun _ => False) rfl rfl ?aP (fun _ hk => hk.elim) ?aF ?aO ?aB ?aS ?aL ?_; (case aP => exact rfl); (case aB => exact uB); (case aF => exact (fun k_ hk => ⟨Kd.fresh' (Kd.Q_lt (uQ HO_10.out)) k_ hk, Kd.fresh' (Kd.R_lt (uR HO_13.out)) k_ hk⟩)); (case aO => exact (uR HO_15.out)); (case aS => exact (below_size uB)); (case aL => have := LMc82.out; omega); intro v875 w85 ho hb hg hat; rw [← Ny874.out] at ho; replace HO_10 := Aside0.mk (Kd.Q_after (ok := (fun k_ => some k_ ≠ (.slice (some ad873) x13_2.length co84 : Value).ownBlock)) (uQ HO_10.out) hg hat); replace HO_13 := Aside0.mk (Kd.R_after (ok := (fun k_ => some k_ ≠ (.slice A46 y870.length c46 : Value).ownBlock)) (uR HO_13.out) hg hat); replace BK853 := Aside0.mk (blk_grown (uK BK853.out) hg (Kd.R_ne HO_15.out BK853.out (by decide))); have HO876 := Aside0.mk (ho); replace HB := Aside0.mk (hb); clear HO_15; clear ho hb hg hat) | ((with_reducible refine gate_callee (f := 78) rfl ?_); refine goesL_ (some 123) rfl rfl Tryz.func78 (by kernel_rfl) rfl #[.slice (some ad873) x13_2.length co84, .int .i64 x18_3] rfl uM ?_; (with_reducible refine (quinariaref02_without.calls _ _ x13_2 x18_3 t877 _ ?side1 ?side2 A83.out).mono ?_); (case side1 => exact uC ((Kd.R_reads' HO_13.out).2.2)); (case side2 => exact (Kd.R_reads' HO_13.out).2.1); rintro e w86 ⟨v878, rfl, ho0, hb⟩; refine ⟨_, rfl, ?_⟩; have n0_ := Aside0.mk (Kd.Q_elder' (uQ HO_10.out) (Kd.R_base ho0) hb); have n1_ := Aside0.mk (Kd.R_elder' (uR HO_13.out) (Kd.R_base ho0) hb); have n2_ := Aside0.mk (Kd.R_elder' (uR HO876.out) (Kd.R_base ho0) hb); have n3_ := Aside0.mk (Kd.R_lower (Kd.R_new' (Kd.R_new' (Kd.R_new' ho0 (Kd.Q_lt (uQ HO_10.out))) (Kd.R_lt (uR HO_13.out))) (Kd.R_lt (uR HO876.out))) (below_size uB)); have n4_ := Aside0.mk (blk_below (uK BK853.out) hb); have n5_ := Aside0.mk (below_step uB hb); clear HO_10; clear HO_13; clear HO876; clear BK853; clear HB; have HO_10 := n0_; have HO_13 := n1_; have HO876 := n2_; have HO879 := n3_; have BK853 := n4_; have HB := n5_; clear n0_ n1_ n2_ n3_ n4_ n5_; (try clear hb); (try clear hb2); (try clear hk); (try clear hi); (try clear ho0)))
            go_roundg k3
            case measure => have := HK1.out; have := HK2.out; have := HK3.out; omega
            case rel => exact ⟨(y870), (t877), (y874), (wrap64 (x16_2 + 1)), u0, H', ⟨by have := HK1.out; have := HK2.out; have := HK3.out; omega⟩, ⟨by refine uQ ?_; exact Kd.Q_mono HO_10.out (fun _ hk => ⟨hk.2, hk.1.2⟩)⟩, ⟨by refine uR ?_; exact Kd.R_mono HO879.out (fun _ hk => ⟨hk.1.1.2, hk.2⟩)⟩, ⟨by refine uR ?_; exact Kd.R_mono HO876.out (fun _ hk => ⟨hk.1.1, hk.2⟩)⟩, ⟨uK BK853.out⟩, ⟨uB⟩⟩
       ·rw [if_neg c30] at H
        replace c30 := decide_eq_false c30
        simp only [Option.some.injEq, Prod.mk.injEq] at H
        obtain ⟨rfl, rfl⟩ := H
        obtain ⟨hcz87_0, hcz87_1⟩ := cz2 BK853.out
        obtain ⟨hfz87_0, hfz87_1⟩ := fz2 BK853.out
        go_wp2
        go_ret2
        exact ⟨_, uE, by refine uR ?_; exact Kd.R_mono HO_15.out (fun _ hk => trivial), uB⟩
    ·replace c26 := Bool.eq_false_iff.mpr c26
     subst c26
     have H1 : (some (([] : List Int), false)) = some (r1, r2) := by rw [if_neg (show ¬ (false = true) by decide)] at H; exact H
     clear H
     have H := H1
     clear H1
     simp only [Option.some.injEq, Prod.mk.injEq] at H
     obtain ⟨rfl, rfl⟩ := H
     obtain ⟨hcz88_0, hcz88_1⟩ := cz2 BK853.out
     obtain ⟨hfz88_0, hfz88_1⟩ := fz2 BK853.out
     obtain ⟨Ao89, co89, eo89, _⟩ := Kd.Q_slice HO_10.out
     subst eo89
     go_wp2_with (first | ((with_reducible refine gate_callee (f := 76) rfl ?_); refine goesL_ (some 49) rfl rfl Tryz.func76 (by kernel_rfl) rfl #[.slice Ao89 x10_1.length co89] rfl uM ?_; (with_reducible refine (quinariaref02_years.calls k1 _ _ x10_1 t860 false _ ?side1 ?side2 A25.out).mono ?_); (case side1 => exact uC ((Kd.Q_reads' HO_10.out).2.2)); (case side2 => exact (Kd.Q_reads' HO_10.out).2.1); rintro e w90 ⟨v862, rfl, ho0, hb⟩; refine ⟨_, rfl, ?_⟩; have n0_ := Aside0.mk (Kd.Q_elder' (uQ HO_10.out) (Kd.R_base ho0) hb); have n1_ := Aside0.mk (Kd.R_lower (Kd.R_new' ho0 (Kd.Q_lt (uQ HO_10.out))) (below_size uB)); have n2_ := Aside0.mk (blk_below (uK BK853.out) hb); have n3_ := Aside0.mk (below_step uB hb); clear HO_10; clear BK853; clear HB; have HO_10 := n0_; have HO863 := n1_; have BK853 := n2_; have HB := n3_; clear n0_ n1_ n2_ n3_; (try clear hb); (try clear hb2); (try clear hk); (try clear hi); (try clear ho0)))
     go_ret2
     exact ⟨_, uE, uN, uB⟩
end Go.Proofs.YtdmdahafiiggiaaGreatDoor.K
end
section
namespace Go.Proofs.YtdmdahafiiggiaaGreatDoor.K
open Go.RowKit Go.Proofs.YtdmdahafiiggiaaGreatDoorW.PrintWords Go.Proofs.YtdmdahafiiggiaaGreatDoorW.PrintLast Go.Proofs.YtdmdahafiiggiaaGreatDoorW.PrintMore
attribute [local go_sem] max2_int min2_int max_two min_two max_three min_three max_four min_four
set_option linter.unusedVariables false
set_option linter.unusedSimpArgs false
mutual
def quinarialaw02_ChannelPlans.j0 : Nat → List Int → Int → Int → Bool → List Int → List (S32) → Option (Bool)
 | 0, _, _, _, _, _, _ => none
 | k + 1, x1, x2, x3, x20, x892000, x892001 => if x20 = true then ((quinarialaw02_known.f k).bind fun t893 => (some t893)) else ((channel_Plan.f x892000 x892001 x1 x2 x3).bind fun bt894 => ((quinariaref02_Right.f k x892000 x892001).bind fun t898 => (if t898 = true then ((quinariaref02_Ages.f k x892000 x892001 x1).bind fun t899 => (if t899 = true then ((quinariaref02_Need.f x2).bind fun t900 => (if t900 = true then ((quinariaref02_Until.f x3).bind fun t901 => (quinarialaw02_ChannelPlans.j1 k x1 x2 x3 bt894.1 bt894.2 (!t901) x892000 x892001)) else (quinarialaw02_ChannelPlans.j1 k x1 x2 x3 bt894.1 bt894.2 true x892000 x892001))) else (quinarialaw02_ChannelPlans.j1 k x1 x2 x3 bt894.1 bt894.2 true x892000 x892001))) else (quinarialaw02_ChannelPlans.j1 k x1 x2 x3 bt894.1 bt894.2 true x892000 x892001))))
def quinarialaw02_ChannelPlans.j1 : Nat → List Int → Int → Int → List Int → Int → Bool → List Int → List (S32) → Option (Bool)
 | 0, _, _, _, _, _, _, _, _ => none
 | k + 1, x1, x2, x3, x9, x10, x48, x892000, x892001 => if x48 = true then (if x10 = 2 then (if (x9.length : Int) = 0 then ((quinarialaw02_known.f k).bind fun t902 => (some t902)) else (some false)) else (some false)) else ((quinariaref02_Plan.f k x892000 x892001 x1 x2 x3).bind fun bt903 => (if bt903.2 = true then (if x10 = 0 then ((quinariaref02_Same.f k x9 bt903.1).bind fun t907 => (if t907 = true then ((quinarialaw02_known.f k).bind fun t908 => (some t908)) else (some false))) else (some false)) else (if x10 = 5 then (if (x9.length : Int) = 0 then ((quinarialaw02_known.f k).bind fun t909 => (some t909)) else (some false)) else (some false))))
end
def quinarialaw02_ChannelPlans.f (k : Nat) (l0_0 : List Int) (l0_1 : List (S32)) (l1 : List Int) (a2 : Int) (a3 : Int) : Option (Bool) := (quinarialaw02_short.f l0_0 l0_1).bind fun t892 => (if t892 = true then (quinarialaw02_ChannelPlans.j0 k l1 a2 a3 (decide ((l1.length : Int) > 10)) l0_0 l0_1) else (quinarialaw02_ChannelPlans.j0 k l1 a2 a3 true l0_0 l0_1))
set_option maxHeartbeats 8000000 in
set_option maxRecDepth 100000 in
theorem quinarialaw02_ChannelPlans.calls (k : Nat) (A0_0 : Option Addr) (c0_0 : Nat) (l0_0 : List Int) (A0_1 : Option Addr) (c0_1 : Nat) (l0_1 : List (S32)) (A1 : Option Addr) (c1 : Nat) (l1 : List Int) (a2 : Int) (a3 : Int) (r : Bool) (w : World) (hr0_0 : Kd.C (Kd.int .i64) w A0_0 l0_0.length l0_0) (hc0_0 : l0_0.length ≤ c0_0) (hr0_1 : Kd.C k32 w A0_1 l0_1.length l0_1) (hc0_1 : l0_1.length ≤ c0_1) (hr1 : Kd.C (Kd.int .i64) w A1 l1.length l1) (hc1 : l1.length ≤ c1) (hT : TabW w) (h : quinarialaw02_ChannelPlans.f k l0_0 l0_1 l1 a2 a3 = some r) :
  Calls Tryz.prog 9 #[.agg #[.slice A0_0 l0_0.length c0_0, .slice A0_1 l0_1.length c0_1], .slice A1 l1.length c1, .int .i64 a2, .int .i64 a3] w fun e w' => e = .returned (.bool r) ∧ Below w.heap.size w w' := by
 have HT := Aside0.mk hT
 clear hT
 have hu25 := Tryz.underlying25
 have HR0_0 := Aside0.mk hr0_0
 have HC0_0 := Aside0.mk hc0_0
 clear hr0_0 hc0_0
 have HR0_1 := Aside0.mk hr0_1
 have HC0_1 := Aside0.mk hc0_1
 clear hr0_1 hc0_1
 have HR1 := Aside0.mk hr1
 have HC1 := Aside0.mk hc1
 clear hr1 hc1
 have HB := Aside0.mk (Below.refl w.heap.size w)
 have H : ((quinarialaw02_short.f l0_0 l0_1).bind fun t892 => (if t892 = true then (quinarialaw02_ChannelPlans.j0 k l1 a2 a3 (decide ((l1.length : Int) > 10)) l0_0 l0_1) else (quinarialaw02_ChannelPlans.j0 k l1 a2 a3 true l0_0 l0_1))) = some r := h
 clear h
 have HC5 := Aside0.mk H
 clear H
 go_enter Tryz.func9, Tryz.ntmps9
 go_upto_region 1 with (first | ((with_reducible refine gate_dst (N := 4) rfl ?_); (try (refine gate_guard (by rfl) ?_; dsimp only)); refine bxe 4 #[.slice A0_0 l0_0.length c0_0, .slice A0_1 l0_1.length c0_1] 25 ?_; intro gb891 hg w6 hbox hb; have n0_ := Aside0.mk (below_step uB hb); have n1_ := Aside0.mk (hbox); have n2_ := gw hg; have n3_ := gw hg; clear HB; have HB := n0_; have BK891 := n1_; have GW891 := n2_; have GE891 := n3_; clear n0_ n1_ n2_ n3_; clear hb hbox hg))
 (try simp only [Act.put, List.setIfInBounds_toArray, List.set_cons_zero, List.set_cons_succ])
 go_cut [20] (fun v20 wc => ∃ (kq : Nat) (x20_4 : Bool), v20 = .bool x20_4 ∧ Aside0 (quinarialaw02_ChannelPlans.j0 kq l1 a2 a3 x20_4 l0_0 l0_1 = some r) ∧ Aside0 (kq ≤ k) ∧ Aside0 (wc.heap[gb891]? = some (.cells #[(.slice A0_0 l0_0.length c0_0), (.slice A0_1 l0_1.length c0_1)] 25 (0, 0))) ∧ Aside0 (Below w.heap.size w wc))
 case first =>
  have H := HC5.out
  clear HC5
  replace H := Option.bind_eq_some_iff.mp H
  obtain ⟨t892, A70, H⟩ := H
  replace H : (if t892 = true then (quinarialaw02_ChannelPlans.j0 k l1 a2 a3 (decide ((l1.length : Int) > 10)) l0_0 l0_1) else (quinarialaw02_ChannelPlans.j0 k l1 a2 a3 true l0_0 l0_1)) = some r := H
  have A7 := Aside0.mk A70
  clear A70
  by_cases c8 : t892 = true
  ·subst c8
   have H1 : (quinarialaw02_ChannelPlans.j0 k l1 a2 a3 (decide ((l1.length : Int) > 10)) l0_0 l0_1) = some r := by rw [if_pos rfl] at H; exact H
   clear H
   have H := H1
   clear H1
   have H' := Aside0.mk H
   clear H
   obtain ⟨hcz9_0, hcz9_1⟩ := cz2 BK891.out
   obtain ⟨hfz9_0, hfz9_1⟩ := fz2 BK891.out
   go_wp2_with (first | ((with_reducible refine gate_callee (f := 13) rfl ?_); refine goesL_ (some 14) rfl rfl Tryz.func13 (by kernel_rfl) rfl #[.agg #[.slice A0_0 l0_0.length c0_0, .slice A0_1 l0_1.length c0_1]] rfl uM ?_; (with_reducible refine (quinarialaw02_short.calls _ _ l0_0 _ _ l0_1 true _ ?side1 ?side2 ?side3 ?side4 A7.out).mono ?_); (case side1 => exact uC (Kd.C_below HR0_0.out HB.out)); (case side2 => exact HC0_0.out); (case side3 => exact uC (Kd.C_below HR0_1.out HB.out)); (case side4 => exact HC0_1.out); rintro e w10 ⟨rfl, hb⟩; refine ⟨_, rfl, ?_⟩; replace BK891 := Aside0.mk (blk_below (uK BK891.out) hb); replace HB := Aside0.mk (below_step uB hb); (try clear hb); (try clear hb2); (try clear hk); (try clear hi)))
   go_meet
   case rel => exact ⟨_, (decide ((l1.length : Int) > 10)), u0, H', ⟨u1⟩, ⟨uK BK891.out⟩, ⟨uB⟩⟩
  ·replace c8 := Bool.eq_false_iff.mpr c8
   subst c8
   have H1 : (quinarialaw02_ChannelPlans.j0 k l1 a2 a3 true l0_0 l0_1) = some r := by rw [if_neg (show ¬ (false = true) by decide)] at H; exact H
   clear H
   have H := H1
   clear H1
   have H' := Aside0.mk H
   clear H
   obtain ⟨hcz11_0, hcz11_1⟩ := cz2 BK891.out
   obtain ⟨hfz11_0, hfz11_1⟩ := fz2 BK891.out
   go_wp2_with (first | ((with_reducible refine gate_callee (f := 13) rfl ?_); refine goesL_ (some 14) rfl rfl Tryz.func13 (by kernel_rfl) rfl #[.agg #[.slice A0_0 l0_0.length c0_0, .slice A0_1 l0_1.length c0_1]] rfl uM ?_; (with_reducible refine (quinarialaw02_short.calls _ _ l0_0 _ _ l0_1 false _ ?side1 ?side2 ?side3 ?side4 A7.out).mono ?_); (case side1 => exact uC (Kd.C_below HR0_0.out HB.out)); (case side2 => exact HC0_0.out); (case side3 => exact uC (Kd.C_below HR0_1.out HB.out)); (case side4 => exact HC0_1.out); rintro e w12 ⟨rfl, hb⟩; refine ⟨_, rfl, ?_⟩; replace BK891 := Aside0.mk (blk_below (uK BK891.out) hb); replace HB := Aside0.mk (below_step uB hb); (try clear hb); (try clear hb2); (try clear hk); (try clear hi)))
   go_meet
   case rel => exact ⟨_, (true), u0, H', ⟨u1⟩, ⟨uK BK891.out⟩, ⟨uB⟩⟩
 case rest =>
  clear HC5; try clear c1; try clear p2; try clear c8; try clear c9; try clear hcz11_0; try clear hcz11_1; try clear hcz9_0; try clear hcz9_1; try clear hfz11_0; try clear hfz11_1; try clear hfz9_0; try clear hfz9_1
  obtain ⟨kq, x20_4, rfl, HA, HJ4, BK891, HB⟩ := hcut
  cases kq with
  | zero => exact absurd HA.out (by simp [quinarialaw02_ChannelPlans.j0])
  | succ kj4 =>
   have H := HA.out
   clear HA
   simp only [quinarialaw02_ChannelPlans.j0] at H
   by_cases c13 : x20_4 = true
   ·subst c13
    have H1 : ((quinarialaw02_known.f kj4).bind fun t893 => (some t893)) = some r := by rw [if_pos rfl] at H; exact H
    clear H
    have H := H1
    clear H1
    replace H := Option.bind_eq_some_iff.mp H
    obtain ⟨t893, A140, H⟩ := H
    replace H : (some t893) = some r := H
    have A14 := Aside0.mk A140
    clear A140
    obtain rfl := Option.some.inj H
    go_wp2_with (first | ((with_reducible refine gate_callee (f := 17) rfl ?_); refine goesL_ (some 21) rfl rfl Tryz.func17 (by kernel_rfl) rfl #[] rfl uM ?_; (with_reducible refine (quinarialaw02_known.calls kj4  t893 _ ?sideT A14.out).mono ?_); (case sideT => exact HT.out.below uB); rintro e w15 ⟨rfl, hb⟩; refine ⟨_, rfl, ?_⟩; replace BK891 := Aside0.mk (blk_below (uK BK891.out) hb); replace HB := Aside0.mk (below_step uB hb); (try clear hb); (try clear hb2); (try clear hk); (try clear hi)))
    go_ret
    exact ⟨uE, uB⟩
   ·replace c13 := Bool.eq_false_iff.mpr c13
    subst c13
    have H1 : ((channel_Plan.f l0_0 l0_1 l1 a2 a3).bind fun bt894 => ((quinariaref02_Right.f kj4 l0_0 l0_1).bind fun t898 => (if t898 = true then ((quinariaref02_Ages.f kj4 l0_0 l0_1 l1).bind fun t899 => (if t899 = true then ((quinariaref02_Need.f a2).bind fun t900 => (if t900 = true then ((quinariaref02_Until.f a3).bind fun t901 => (quinarialaw02_ChannelPlans.j1 kj4 l1 a2 a3 bt894.1 bt894.2 (!t901) l0_0 l0_1)) else (quinarialaw02_ChannelPlans.j1 kj4 l1 a2 a3 bt894.1 bt894.2 true l0_0 l0_1))) else (quinarialaw02_ChannelPlans.j1 kj4 l1 a2 a3 bt894.1 bt894.2 true l0_0 l0_1))) else (quinarialaw02_ChannelPlans.j1 kj4 l1 a2 a3 bt894.1 bt894.2 true l0_0 l0_1)))) = some r := by rw [if_neg (show ¬ (false = true) by decide)] at H; exact H
    clear H
    have H := H1
    clear H1
    replace H := Option.bind_eq_some_iff.mp H
    obtain ⟨⟨t894, t897⟩, A160, H⟩ := H
    replace H : ((quinariaref02_Right.f kj4 l0_0 l0_1).bind fun t898 => (if t898 = true then ((quinariaref02_Ages.f kj4 l0_0 l0_1 l1).bind fun t899 => (if t899 = true then ((quinariaref02_Need.f a2).bind fun t900 => (if t900 = true then ((quinariaref02_Until.f a3).bind fun t901 => (quinarialaw02_ChannelPlans.j1 kj4 l1 a2 a3 t894 t897 (!t901) l0_0 l0_1)) else (quinarialaw02_ChannelPlans.j1 kj4 l1 a2 a3 t894 t897 true l0_0 l0_1))) else (quinarialaw02_ChannelPlans.j1 kj4 l1 a2 a3 t894 t897 true l0_0 l0_1))) else (quinarialaw02_ChannelPlans.j1 kj4 l1 a2 a3 t894 t897 true l0_0 l0_1))) = some r := H
    have A16 := Aside0.mk A160
    clear A160
    have HC17 := Aside0.mk H
    clear H
    obtain ⟨hcz18_0, hcz18_1⟩ := cz2 BK891.out
    obtain ⟨hfz18_0, hfz18_1⟩ := fz2 BK891.out
    go_upto_region 4 with (first | ((with_reducible refine gate_callee (f := 32) rfl ?_); refine goesL_ (some 27) rfl rfl Tryz.func32 (by kernel_rfl) rfl #[.agg #[.slice A0_0 l0_0.length c0_0, .slice A0_1 l0_1.length c0_1], .slice A1 l1.length c1, .int .i64 a2, .int .i64 a3] rfl uM ?_; (with_reducible refine (channel_Plan.calls _ _ l0_0 _ _ l0_1 _ _ l1 a2 a3 t894 t897 _ ?side1 ?side2 ?side3 ?side4 ?side5 ?side6 A16.out).mono ?_); (case side1 => exact uC (Kd.C_below HR0_0.out HB.out)); (case side2 => exact HC0_0.out); (case side3 => exact uC (Kd.C_below HR0_1.out HB.out)); (case side4 => exact HC0_1.out); (case side5 => exact uC (Kd.C_below HR1.out HB.out)); (case side6 => exact HC1.out); rintro e w19 ⟨v895, rfl, ho0, hb⟩; refine ⟨_, rfl, ?_⟩; have HO896 := Aside0.mk (Kd.R_lower ho0 (below_size uB)); replace BK891 := Aside0.mk (blk_below (uK BK891.out) hb); replace HB := Aside0.mk (below_step uB hb); (try clear hb); (try clear hb2); (try clear hk); (try clear hi); (try clear ho0)))
    (try simp only [Act.put, List.setIfInBounds_toArray, List.set_cons_zero, List.set_cons_succ])
    go_cut [48] (fun v48 wc => ∃ (kq : Nat) (x48_16 : Bool), v48 = .bool x48_16 ∧ Aside0 (quinarialaw02_ChannelPlans.j1 kq l1 a2 a3 t894 t897 x48_16 l0_0 l0_1 = some r) ∧ Aside0 (kq ≤ kj4) ∧ Aside0 (Kd.R (Kd.int .i64) 3 wc w.heap.size (fun _ => True) v895 t894) ∧ Aside0 (wc.heap[gb891]? = some (.cells #[(.slice A0_0 l0_0.length c0_0), (.slice A0_1 l0_1.length c0_1)] 25 (0, 0))) ∧ Aside0 (Below w.heap.size w wc))
    case first =>
     have H := HC17.out
     clear HC17
     replace H := Option.bind_eq_some_iff.mp H
     obtain ⟨t898, A200, H⟩ := H
     replace H : (if t898 = true then ((quinariaref02_Ages.f kj4 l0_0 l0_1 l1).bind fun t899 => (if t899 = true then ((quinariaref02_Need.f a2).bind fun t900 => (if t900 = true then ((quinariaref02_Until.f a3).bind fun t901 => (quinarialaw02_ChannelPlans.j1 kj4 l1 a2 a3 t894 t897 (!t901) l0_0 l0_1)) else (quinarialaw02_ChannelPlans.j1 kj4 l1 a2 a3 t894 t897 true l0_0 l0_1))) else (quinarialaw02_ChannelPlans.j1 kj4 l1 a2 a3 t894 t897 true l0_0 l0_1))) else (quinarialaw02_ChannelPlans.j1 kj4 l1 a2 a3 t894 t897 true l0_0 l0_1)) = some r := H
     have A20 := Aside0.mk A200
     clear A200
     by_cases c21 : t898 = true
     ·subst c21
      have H1 : ((quinariaref02_Ages.f kj4 l0_0 l0_1 l1).bind fun t899 => (if t899 = true then ((quinariaref02_Need.f a2).bind fun t900 => (if t900 = true then ((quinariaref02_Until.f a3).bind fun t901 => (quinarialaw02_ChannelPlans.j1 kj4 l1 a2 a3 t894 t897 (!t901) l0_0 l0_1)) else (quinarialaw02_ChannelPlans.j1 kj4 l1 a2 a3 t894 t897 true l0_0 l0_1))) else (quinarialaw02_ChannelPlans.j1 kj4 l1 a2 a3 t894 t897 true l0_0 l0_1))) = some r := by rw [if_pos rfl] at H; exact H
      clear H
      have H := H1
      clear H1
      replace H := Option.bind_eq_some_iff.mp H
      obtain ⟨t899, A220, H⟩ := H
      replace H : (if t899 = true then ((quinariaref02_Need.f a2).bind fun t900 => (if t900 = true then ((quinariaref02_Until.f a3).bind fun t901 => (quinarialaw02_ChannelPlans.j1 kj4 l1 a2 a3 t894 t897 (!t901) l0_0 l0_1)) else (quinarialaw02_ChannelPlans.j1 kj4 l1 a2 a3 t894 t897 true l0_0 l0_1))) else (quinarialaw02_ChannelPlans.j1 kj4 l1 a2 a3 t894 t897 true l0_0 l0_1)) = some r := H
      have A22 := Aside0.mk A220
      clear A220
      by_cases c23 : t899 = true
      ·subst c23
       have H1 : ((quinariaref02_Need.f a2).bind fun t900 => (if t900 = true then ((quinariaref02_Until.f a3).bind fun t901 => (quinarialaw02_ChannelPlans.j1 kj4 l1 a2 a3 t894 t897 (!t901) l0_0 l0_1)) else (quinarialaw02_ChannelPlans.j1 kj4 l1 a2 a3 t894 t897 true l0_0 l0_1))) = some r := by rw [if_pos rfl] at H; exact H
       clear H
       have H := H1
       clear H1
       replace H := Option.bind_eq_some_iff.mp H
       obtain ⟨t900, A240, H⟩ := H
       replace H : (if t900 = true then ((quinariaref02_Until.f a3).bind fun t901 => (quinarialaw02_ChannelPlans.j1 kj4 l1 a2 a3 t894 t897 (!t901) l0_0 l0_1)) else (quinarialaw02_ChannelPlans.j1 kj4 l1 a2 a3 t894 t897 true l0_0 l0_1)) = some r := H
       have A24 := Aside0.mk A240
       clear A240
       by_cases c25 : t900 = true
       ·subst c25
        have H1 : ((quinariaref02_Until.f a3).bind fun t901 => (quinarialaw02_ChannelPlans.j1 kj4 l1 a2 a3 t894 t897 (!t901) l0_0 l0_1)) = some r := by rw [if_pos rfl] at H; exact H
        clear H
        have H := H1
        clear H1
        replace H := Option.bind_eq_some_iff.mp H
        obtain ⟨t901, A260, H⟩ := H
        replace H : (quinarialaw02_ChannelPlans.j1 kj4 l1 a2 a3 t894 t897 (!t901) l0_0 l0_1) = some r := H
        have A26 := Aside0.mk A260
        clear A260
        have H' := Aside0.mk H
        clear H
        obtain ⟨hcz27_0, hcz27_1⟩ := cz2 BK891.out
        obtain ⟨hfz27_0, hfz27_1⟩ := fz2 BK891.out
        go_wp2_with (first | ((with_reducible refine gate_callee (f := 14) rfl ?_); refine goesL_ (some 31) rfl rfl Tryz.func14 (by kernel_rfl) rfl #[.agg #[.slice A0_0 l0_0.length c0_0, .slice A0_1 l0_1.length c0_1]] rfl uM ?_; (with_reducible refine (quinariaref02_Right.calls kj4 _ _ l0_0 _ _ l0_1 true _ ?side1 ?side2 ?side3 ?side4 A20.out).mono ?_); (case side1 => exact uC (Kd.C_below HR0_0.out HB.out)); (case side2 => exact HC0_0.out); (case side3 => exact uC (Kd.C_below HR0_1.out HB.out)); (case side4 => exact HC0_1.out); rintro e w28 ⟨rfl, hb⟩; refine ⟨_, rfl, ?_⟩; replace HO896 := Aside0.mk (Kd.R_below (uR HO896.out) hb); replace BK891 := Aside0.mk (blk_below (uK BK891.out) hb); replace HB := Aside0.mk (below_step uB hb); (try clear hb); (try clear hb2); (try clear hk); (try clear hi); obtain ⟨hcz29_0, hcz29_1⟩ := cz2 BK891.out; obtain ⟨hfz29_0, hfz29_1⟩ := fz2 BK891.out) | (go_at_call 22; (with_reducible refine (quinariaref02_Ages.calls kj4 _ _ l0_0 _ _ l0_1 _ _ l1 true _ ?side1 ?side2 ?side3 ?side4 ?side5 ?side6 A22.out).mono ?_); (case side1 => exact uC (Kd.C_below HR0_0.out HB.out)); (case side2 => exact HC0_0.out); (case side3 => exact uC (Kd.C_below HR0_1.out HB.out)); (case side4 => exact HC0_1.out); (case side5 => exact uC (Kd.C_below HR1.out HB.out)); (case side6 => exact HC1.out); rintro e w30 ⟨rfl, hb⟩; replace HO896 := Aside0.mk (Kd.R_below (uR HO896.out) hb); replace BK891 := Aside0.mk (blk_below (uK BK891.out) hb); replace HB := Aside0.mk (below_step uB hb); (try clear hb); (try clear hb2); (try clear hk); (try clear hi)) | (go_at_call 29; (with_reducible refine (quinariaref02_Need.calls a2 true _ A24.out).mono ?_); rintro e w' ⟨rfl, ⟨nd, rfl⟩⟩) | (go_at_call 33; (with_reducible refine (quinariaref02_Until.calls a3 t901 _ A26.out).mono ?_); rintro e w' ⟨rfl, ⟨nd, rfl⟩⟩))
        go_meet
        case rel => exact ⟨_, (!t901), u0, H', ⟨by have := HJ4.out; first | omega | exact Nat.le_refl _⟩, ⟨uR HO896.out⟩, ⟨uK BK891.out⟩, ⟨uB⟩⟩
       ·replace c25 := Bool.eq_false_iff.mpr c25
        subst c25
        have H1 : (quinarialaw02_ChannelPlans.j1 kj4 l1 a2 a3 t894 t897 true l0_0 l0_1) = some r := by rw [if_neg (show ¬ (false = true) by decide)] at H; exact H
        clear H
        have H := H1
        clear H1
        have H' := Aside0.mk H
        clear H
        obtain ⟨hcz31_0, hcz31_1⟩ := cz2 BK891.out
        obtain ⟨hfz31_0, hfz31_1⟩ := fz2 BK891.out
        go_wp2_with (first | ((with_reducible refine gate_callee (f := 14) rfl ?_); refine goesL_ (some 31) rfl rfl Tryz.func14 (by kernel_rfl) rfl #[.agg #[.slice A0_0 l0_0.length c0_0, .slice A0_1 l0_1.length c0_1]] rfl uM ?_; (with_reducible refine (quinariaref02_Right.calls kj4 _ _ l0_0 _ _ l0_1 true _ ?side1 ?side2 ?side3 ?side4 A20.out).mono ?_); (case side1 => exact uC (Kd.C_below HR0_0.out HB.out)); (case side2 => exact HC0_0.out); (case side3 => exact uC (Kd.C_below HR0_1.out HB.out)); (case side4 => exact HC0_1.out); rintro e w32 ⟨rfl, hb⟩; refine ⟨_, rfl, ?_⟩; replace HO896 := Aside0.mk (Kd.R_below (uR HO896.out) hb); replace BK891 := Aside0.mk (blk_below (uK BK891.out) hb); replace HB := Aside0.mk (below_step uB hb); (try clear hb); (try clear hb2); (try clear hk); (try clear hi); obtain ⟨hcz33_0, hcz33_1⟩ := cz2 BK891.out; obtain ⟨hfz33_0, hfz33_1⟩ := fz2 BK891.out) | (go_at_call 22; (with_reducible refine (quinariaref02_Ages.calls kj4 _ _ l0_0 _ _ l0_1 _ _ l1 true _ ?side1 ?side2 ?side3 ?side4 ?side5 ?side6 A22.out).mono ?_); (case side1 => exact uC (Kd.C_below HR0_0.out HB.out)); (case side2 => exact HC0_0.out); (case side3 => exact uC (Kd.C_below HR0_1.out HB.out)); (case side4 => exact HC0_1.out); (case side5 => exact uC (Kd.C_below HR1.out HB.out)); (case side6 => exact HC1.out); rintro e w34 ⟨rfl, hb⟩; replace HO896 := Aside0.mk (Kd.R_below (uR HO896.out) hb); replace BK891 := Aside0.mk (blk_below (uK BK891.out) hb); replace HB := Aside0.mk (below_step uB hb); (try clear hb); (try clear hb2); (try clear hk); (try clear hi)) | (go_at_call 29; (with_reducible refine (quinariaref02_Need.calls a2 false _ A24.out).mono ?_); rintro e w' ⟨rfl, ⟨nd, rfl⟩⟩))
        go_meet
        case rel => exact ⟨_, (true), u0, H', ⟨by have := HJ4.out; first | omega | exact Nat.le_refl _⟩, ⟨uR HO896.out⟩, ⟨uK BK891.out⟩, ⟨uB⟩⟩
      ·replace c23 := Bool.eq_false_iff.mpr c23
       subst c23
       have H1 : (quinarialaw02_ChannelPlans.j1 kj4 l1 a2 a3 t894 t897 true l0_0 l0_1) = some r := by rw [if_neg (show ¬ (false = true) by decide)] at H; exact H
       clear H
       have H := H1
       clear H1
       have H' := Aside0.mk H
       clear H
       obtain ⟨hcz35_0, hcz35_1⟩ := cz2 BK891.out
       obtain ⟨hfz35_0, hfz35_1⟩ := fz2 BK891.out
       go_wp2_with (first | ((with_reducible refine gate_callee (f := 14) rfl ?_); refine goesL_ (some 31) rfl rfl Tryz.func14 (by kernel_rfl) rfl #[.agg #[.slice A0_0 l0_0.length c0_0, .slice A0_1 l0_1.length c0_1]] rfl uM ?_; (with_reducible refine (quinariaref02_Right.calls kj4 _ _ l0_0 _ _ l0_1 true _ ?side1 ?side2 ?side3 ?side4 A20.out).mono ?_); (case side1 => exact uC (Kd.C_below HR0_0.out HB.out)); (case side2 => exact HC0_0.out); (case side3 => exact uC (Kd.C_below HR0_1.out HB.out)); (case side4 => exact HC0_1.out); rintro e w36 ⟨rfl, hb⟩; refine ⟨_, rfl, ?_⟩; replace HO896 := Aside0.mk (Kd.R_below (uR HO896.out) hb); replace BK891 := Aside0.mk (blk_below (uK BK891.out) hb); replace HB := Aside0.mk (below_step uB hb); (try clear hb); (try clear hb2); (try clear hk); (try clear hi); obtain ⟨hcz37_0, hcz37_1⟩ := cz2 BK891.out; obtain ⟨hfz37_0, hfz37_1⟩ := fz2 BK891.out) | (go_at_call 22; (with_reducible refine (quinariaref02_Ages.calls kj4 _ _ l0_0 _ _ l0_1 _ _ l1 false _ ?side1 ?side2 ?side3 ?side4 ?side5 ?side6 A22.out).mono ?_); (case side1 => exact uC (Kd.C_below HR0_0.out HB.out)); (case side2 => exact HC0_0.out); (case side3 => exact uC (Kd.C_below HR0_1.out HB.out)); (case side4 => exact HC0_1.out); (case side5 => exact uC (Kd.C_below HR1.out HB.out)); (case side6 => exact HC1.out); rintro e w38 ⟨rfl, hb⟩; replace HO896 := Aside0.mk (Kd.R_below (uR HO896.out) hb); replace BK891 := Aside0.mk (blk_below (uK BK891.out) hb); replace HB := Aside0.mk (below_step uB hb); (try clear hb); (try clear hb2); (try clear hk); (try clear hi)))
       go_meet
       case rel => exact ⟨_, (true), u0, H', ⟨by have := HJ4.out; first | omega | exact Nat.le_refl _⟩, ⟨uR HO896.out⟩, ⟨uK BK891.out⟩, ⟨uB⟩⟩
     ·replace c21 := Bool.eq_false_iff.mpr c21
      subst c21
      have H1 : (quinarialaw02_ChannelPlans.j1 kj4 l1 a2 a3 t894 t897 true l0_0 l0_1) = some r := by rw [if_neg (show ¬ (false = true) by decide)] at H; exact H
      clear H
      have H := H1
      clear H1
      have H' := Aside0.mk H
      clear H
      obtain ⟨hcz39_0, hcz39_1⟩ := cz2 BK891.out
      obtain ⟨hfz39_0, hfz39_1⟩ := fz2 BK891.out
      go_wp2_with (first | ((with_reducible refine gate_callee (f := 14) rfl ?_); refine goesL_ (some 31) rfl rfl Tryz.func14 (by kernel_rfl) rfl #[.agg #[.slice A0_0 l0_0.length c0_0, .slice A0_1 l0_1.length c0_1]] rfl uM ?_; (with_reducible refine (quinariaref02_Right.calls kj4 _ _ l0_0 _ _ l0_1 false _ ?side1 ?side2 ?side3 ?side4 A20.out).mono ?_); (case side1 => exact uC (Kd.C_below HR0_0.out HB.out)); (case side2 => exact HC0_0.out); (case side3 => exact uC (Kd.C_below HR0_1.out HB.out)); (case side4 => exact HC0_1.out); rintro e w40 ⟨rfl, hb⟩; refine ⟨_, rfl, ?_⟩; replace HO896 := Aside0.mk (Kd.R_below (uR HO896.out) hb); replace BK891 := Aside0.mk (blk_below (uK BK891.out) hb); replace HB := Aside0.mk (below_step uB hb); (try clear hb); (try clear hb2); (try clear hk); (try clear hi)))
      go_meet
      case rel => exact ⟨_, (true), u0, H', ⟨by have := HJ4.out; first | omega | exact Nat.le_refl _⟩, ⟨uR HO896.out⟩, ⟨uK BK891.out⟩, ⟨uB⟩⟩
    case rest =>
     clear HC17; try clear c1; try clear c2; try clear p2; try clear c3; try clear c8; try clear c9; try clear c13; try clear c14; try clear c17; try clear c21; try clear c23; try clear c25; try clear c32; try clear hcz11_0; try clear hcz11_1; try clear hcz18_0; try clear hcz18_1; try clear hcz27_0; try clear hcz27_1; try clear hcz29_0; try clear hcz29_1; try clear hcz31_0; try clear hcz31_1; try clear hcz33_0; try clear hcz33_1; try clear hcz35_0; try clear hcz35_1; try clear hcz37_0; try clear hcz37_1; try clear hcz39_0; try clear hcz39_1; try clear hcz9_0; try clear hcz9_1; try clear hfz11_0; try clear hfz11_1; try clear hfz18_0; try clear hfz18_1; try clear hfz27_0; try clear hfz27_1; try clear hfz29_0; try clear hfz29_1; try clear hfz31_0; try clear hfz31_1; try clear hfz33_0; try clear hfz33_1; try clear hfz35_0; try clear hfz35_1; try clear hfz37_0; try clear hfz37_1; try clear hfz39_0; try clear hfz39_1; try clear hfz9_0; try clear hfz9_1; try clear p2
     obtain ⟨kq, x48_16, rfl, HA, HJ16, HO_9, BK891, HB⟩ := hcut
     cases kq with
     | zero => exact absurd HA.out (by simp [quinarialaw02_ChannelPlans.j1])
     | succ kj16 =>
      have H := HA.out
      clear HA
      simp only [quinarialaw02_ChannelPlans.j1] at H
      by_cases c41 : x48_16 = true
      ·subst c41
       have H1 : (if t897 = 2 then (if (t894.length : Int) = 0 then ((quinarialaw02_known.f kj16).bind fun t902 => (some t902)) else (some false)) else (some false)) = some r := by rw [if_pos rfl] at H; exact H
       clear H
       have H := H1
       clear H1
       by_cases c42 : t897 = 2
       ·rw [if_pos c42] at H
        have c42b0 : (t897 == 2) = true := beq_iff_eq.mpr c42
        have c42b1 : (t897 != 2) = false := bne_eq_false_iff_eq.mpr c42
        clear c42
        by_cases c43 : (t894.length : Int) = 0
        ·rw [if_pos c43] at H
         have c43b0 : ((t894.length : Int) == 0) = true := beq_iff_eq.mpr c43
         have c43b1 : ((t894.length : Int) != 0) = false := bne_eq_false_iff_eq.mpr c43
         clear c43
         replace H := Option.bind_eq_some_iff.mp H
         obtain ⟨t902, A440, H⟩ := H
         replace H : (some t902) = some r := H
         have A44 := Aside0.mk A440
         clear A440
         obtain rfl := Option.some.inj H
         obtain ⟨Ao45, co45, eo45⟩ := Kd.R_slice HO_9.out
         subst eo45
         go_wp2_with (first | (go_at_call 17; (with_reducible refine (quinarialaw02_known.calls kj16  t902 _ ?sideT A44.out).mono ?_); (case sideT => exact HT.out.below uB); rintro e w46 ⟨rfl, hb⟩; replace HO_9 := Aside0.mk (Kd.R_below (uR HO_9.out) hb); replace BK891 := Aside0.mk (blk_below (uK BK891.out) hb); replace HB := Aside0.mk (below_step uB hb); (try clear hb); (try clear hb2); (try clear hk); (try clear hi)))
         go_ret
         exact ⟨uE, uB⟩
        ·rw [if_neg c43] at H
         have c43b0 : ((t894.length : Int) == 0) = false := beq_eq_false_iff_ne.mpr c43
         have c43b1 : ((t894.length : Int) != 0) = true := bne_iff_ne.mpr c43
         have c43b2 : ¬ (t894 = []) := fun h_ => c43 (by rw [h_]; rfl)
         obtain rfl := Option.some.inj H
         obtain ⟨Ao47, co47, eo47⟩ := Kd.R_slice HO_9.out
         subst eo47
         go_wp2
         go_ret
         exact ⟨uE, uB⟩
       ·rw [if_neg c42] at H
        have c42b0 : (t897 == 2) = false := beq_eq_false_iff_ne.mpr c42
        have c42b1 : (t897 != 2) = true := bne_iff_ne.mpr c42
        obtain rfl := Option.some.inj H
        go_wp2
        go_ret
        exact ⟨uE, uB⟩
      ·replace c41 := Bool.eq_false_iff.mpr c41
       subst c41
       have H1 : ((quinariaref02_Plan.f kj16 l0_0 l0_1 l1 a2 a3).bind fun bt903 => (if bt903.2 = true then (if t897 = 0 then ((quinariaref02_Same.f kj16 t894 bt903.1).bind fun t907 => (if t907 = true then ((quinarialaw02_known.f kj16).bind fun t908 => (some t908)) else (some false))) else (some false)) else (if t897 = 5 then (if (t894.length : Int) = 0 then ((quinarialaw02_known.f kj16).bind fun t909 => (some t909)) else (some false)) else (some false)))) = some r := by rw [if_neg (show ¬ (false = true) by decide)] at H; exact H
       clear H
       have H := H1
       clear H1
       replace H := Option.bind_eq_some_iff.mp H
       obtain ⟨⟨t903, t906⟩, A480, H⟩ := H
       replace H : (if t906 = true then (if t897 = 0 then ((quinariaref02_Same.f kj16 t894 t903).bind fun t907 => (if t907 = true then ((quinarialaw02_known.f kj16).bind fun t908 => (some t908)) else (some false))) else (some false)) else (if t897 = 5 then (if (t894.length : Int) = 0 then ((quinarialaw02_known.f kj16).bind fun t909 => (some t909)) else (some false)) else (some false))) = some r := H
       have A48 := Aside0.mk A480
       clear A480
       by_cases c49 : t906 = true
       ·subst c49
        have H1 : (if t897 = 0 then ((quinariaref02_Same.f kj16 t894 t903).bind fun t907 => (if t907 = true then ((quinarialaw02_known.f kj16).bind fun t908 => (some t908)) else (some false))) else (some false)) = some r := by rw [if_pos rfl] at H; exact H
        clear H
        have H := H1
        clear H1
        by_cases c50 : t897 = 0
        ·rw [if_pos c50] at H
         have c50b0 : (t897 == 0) = true := beq_iff_eq.mpr c50
         have c50b1 : (t897 != 0) = false := bne_eq_false_iff_eq.mpr c50
         clear c50
         replace H := Option.bind_eq_some_iff.mp H
         obtain ⟨t907, A510, H⟩ := H
         replace H : (if t907 = true then ((quinarialaw02_known.f kj16).bind fun t908 => (some t908)) else (some false)) = some r := H
         have A51 := Aside0.mk A510
         clear A510
         by_cases c52 : t907 = true
         ·subst c52
          have H1 : ((quinarialaw02_known.f kj16).bind fun t908 => (some t908)) = some r := by rw [if_pos rfl] at H; exact H
          clear H
          have H := H1
          clear H1
          replace H := Option.bind_eq_some_iff.mp H
          obtain ⟨t908, A530, H⟩ := H
          replace H : (some t908) = some r := H
          have A53 := Aside0.mk A530
          clear A530
          obtain rfl := Option.some.inj H
          obtain ⟨hcz54_0, hcz54_1⟩ := cz2 BK891.out
          obtain ⟨hfz54_0, hfz54_1⟩ := fz2 BK891.out
          go_wp2_with (first | ((with_reducible refine gate_callee (f := 34) rfl ?_); refine goesL_ (some 64) rfl rfl Tryz.func34 (by kernel_rfl) rfl #[.agg #[.slice A0_0 l0_0.length c0_0, .slice A0_1 l0_1.length c0_1], .slice A1 l1.length c1, .int .i64 a2, .int .i64 a3] rfl uM ?_; (with_reducible refine (quinariaref02_Plan.calls kj16 _ _ l0_0 _ _ l0_1 _ _ l1 a2 a3 t903 true _ ?side1 ?side2 ?side3 ?side4 ?side5 ?side6 A48.out).mono ?_); (case side1 => exact uC (Kd.C_below HR0_0.out HB.out)); (case side2 => exact HC0_0.out); (case side3 => exact uC (Kd.C_below HR0_1.out HB.out)); (case side4 => exact HC0_1.out); (case side5 => exact uC (Kd.C_below HR1.out HB.out)); (case side6 => exact HC1.out); rintro e w55 ⟨v904, rfl, ho0, hb⟩; refine ⟨_, rfl, ?_⟩; have n0_ := Aside0.mk (Kd.R_elder' (uR HO_9.out) (Kd.R_base ho0) hb); have n1_ := Aside0.mk (Kd.R_lower (Kd.R_new' ho0 (Kd.R_lt (uR HO_9.out))) (below_size uB)); have n2_ := Aside0.mk (blk_below (uK BK891.out) hb); have n3_ := Aside0.mk (below_step uB hb); clear HO_9; clear BK891; clear HB; have HO_9 := n0_; have HO905 := n1_; have BK891 := n2_; have HB := n3_; clear n0_ n1_ n2_ n3_; (try clear hb); (try clear hb2); (try clear hk); (try clear hi); (try clear ho0); obtain ⟨Ao56, co56, eo56⟩ := Kd.R_slice HO_9.out; subst eo56; obtain ⟨Ao57, co57, eo57⟩ := Kd.R_slice HO905.out; subst eo57) | (go_at_call 24; (with_reducible refine (quinariaref02_Same.calls kj16 _ _ t894 _ _ t903 true _ ?side1 ?side2 ?side3 ?side4 A51.out).mono ?_); (case side1 => exact uC ((Kd.R_reads' HO_9.out).2.2)); (case side2 => exact (Kd.R_reads' HO_9.out).2.1); (case side3 => exact uC ((Kd.R_reads' HO905.out).2.2)); (case side4 => exact (Kd.R_reads' HO905.out).2.1); rintro e w' ⟨rfl, ⟨nd, rfl⟩⟩) | (go_at_call 17; (with_reducible refine (quinarialaw02_known.calls kj16  t908 _ ?sideT A53.out).mono ?_); (case sideT => exact HT.out.below uB); rintro e w58 ⟨rfl, hb⟩; replace HO_9 := Aside0.mk (Kd.R_below (uR HO_9.out) hb); replace HO905 := Aside0.mk (Kd.R_below (uR HO905.out) hb); replace BK891 := Aside0.mk (blk_below (uK BK891.out) hb); replace HB := Aside0.mk (below_step uB hb); (try clear hb); (try clear hb2); (try clear hk); (try clear hi)))
          go_ret
          exact ⟨uE, uB⟩
         ·replace c52 := Bool.eq_false_iff.mpr c52
          subst c52
          have H1 : (some false) = some r := by rw [if_neg (show ¬ (false = true) by decide)] at H; exact H
          clear H
          have H := H1
          clear H1
          obtain rfl := Option.some.inj H
          obtain ⟨hcz59_0, hcz59_1⟩ := cz2 BK891.out
          obtain ⟨hfz59_0, hfz59_1⟩ := fz2 BK891.out
          go_wp2_with (first | ((with_reducible refine gate_callee (f := 34) rfl ?_); refine goesL_ (some 64) rfl rfl Tryz.func34 (by kernel_rfl) rfl #[.agg #[.slice A0_0 l0_0.length c0_0, .slice A0_1 l0_1.length c0_1], .slice A1 l1.length c1, .int .i64 a2, .int .i64 a3] rfl uM ?_; (with_reducible refine (quinariaref02_Plan.calls kj16 _ _ l0_0 _ _ l0_1 _ _ l1 a2 a3 t903 true _ ?side1 ?side2 ?side3 ?side4 ?side5 ?side6 A48.out).mono ?_); (case side1 => exact uC (Kd.C_below HR0_0.out HB.out)); (case side2 => exact HC0_0.out); (case side3 => exact uC (Kd.C_below HR0_1.out HB.out)); (case side4 => exact HC0_1.out); (case side5 => exact uC (Kd.C_below HR1.out HB.out)); (case side6 => exact HC1.out); rintro e w60 ⟨v904, rfl, ho0, hb⟩; refine ⟨_, rfl, ?_⟩; have n0_ := Aside0.mk (Kd.R_elder' (uR HO_9.out) (Kd.R_base ho0) hb); have n1_ := Aside0.mk (Kd.R_lower (Kd.R_new' ho0 (Kd.R_lt (uR HO_9.out))) (below_size uB)); have n2_ := Aside0.mk (blk_below (uK BK891.out) hb); have n3_ := Aside0.mk (below_step uB hb); clear HO_9; clear BK891; clear HB; have HO_9 := n0_; have HO905 := n1_; have BK891 := n2_; have HB := n3_; clear n0_ n1_ n2_ n3_; (try clear hb); (try clear hb2); (try clear hk); (try clear hi); (try clear ho0); obtain ⟨Ao61, co61, eo61⟩ := Kd.R_slice HO_9.out; subst eo61; obtain ⟨Ao62, co62, eo62⟩ := Kd.R_slice HO905.out; subst eo62) | (go_at_call 24; (with_reducible refine (quinariaref02_Same.calls kj16 _ _ t894 _ _ t903 false _ ?side1 ?side2 ?side3 ?side4 A51.out).mono ?_); (case side1 => exact uC ((Kd.R_reads' HO_9.out).2.2)); (case side2 => exact (Kd.R_reads' HO_9.out).2.1); (case side3 => exact uC ((Kd.R_reads' HO905.out).2.2)); (case side4 => exact (Kd.R_reads' HO905.out).2.1); rintro e w' ⟨rfl, ⟨nd, rfl⟩⟩))
          go_ret
          exact ⟨uE, uB⟩
        ·rw [if_neg c50] at H
         have c50b0 : (t897 == 0) = false := beq_eq_false_iff_ne.mpr c50
         have c50b1 : (t897 != 0) = true := bne_iff_ne.mpr c50
         obtain rfl := Option.some.inj H
         obtain ⟨hcz63_0, hcz63_1⟩ := cz2 BK891.out
         obtain ⟨hfz63_0, hfz63_1⟩ := fz2 BK891.out
         go_wp2_with (first | ((with_reducible refine gate_callee (f := 34) rfl ?_); refine goesL_ (some 64) rfl rfl Tryz.func34 (by kernel_rfl) rfl #[.agg #[.slice A0_0 l0_0.length c0_0, .slice A0_1 l0_1.length c0_1], .slice A1 l1.length c1, .int .i64 a2, .int .i64 a3] rfl uM ?_; (with_reducible refine (quinariaref02_Plan.calls kj16 _ _ l0_0 _ _ l0_1 _ _ l1 a2 a3 t903 true _ ?side1 ?side2 ?side3 ?side4 ?side5 ?side6 A48.out).mono ?_); (case side1 => exact uC (Kd.C_below HR0_0.out HB.out)); (case side2 => exact HC0_0.out); (case side3 => exact uC (Kd.C_below HR0_1.out HB.out)); (case side4 => exact HC0_1.out); (case side5 => exact uC (Kd.C_below HR1.out HB.out)); (case side6 => exact HC1.out); rintro e w64 ⟨v904, rfl, ho0, hb⟩; refine ⟨_, rfl, ?_⟩; have n0_ := Aside0.mk (Kd.R_elder' (uR HO_9.out) (Kd.R_base ho0) hb); have n1_ := Aside0.mk (Kd.R_lower (Kd.R_new' ho0 (Kd.R_lt (uR HO_9.out))) (below_size uB)); have n2_ := Aside0.mk (blk_below (uK BK891.out) hb); have n3_ := Aside0.mk (below_step uB hb); clear HO_9; clear BK891; clear HB; have HO_9 := n0_; have HO905 := n1_; have BK891 := n2_; have HB := n3_; clear n0_ n1_ n2_ n3_; (try clear hb); (try clear hb2); (try clear hk); (try clear hi); (try clear ho0)))
         go_ret
         exact ⟨uE, uB⟩
       ·replace c49 := Bool.eq_false_iff.mpr c49
        subst c49
        have H1 : (if t897 = 5 then (if (t894.length : Int) = 0 then ((quinarialaw02_known.f kj16).bind fun t909 => (some t909)) else (some false)) else (some false)) = some r := by rw [if_neg (show ¬ (false = true) by decide)] at H; exact H
        clear H
        have H := H1
        clear H1
        by_cases c65 : t897 = 5
        ·rw [if_pos c65] at H
         have c65b0 : (t897 == 5) = true := beq_iff_eq.mpr c65
         have c65b1 : (t897 != 5) = false := bne_eq_false_iff_eq.mpr c65
         clear c65
         by_cases c66 : (t894.length : Int) = 0
         ·rw [if_pos c66] at H
          have c66b0 : ((t894.length : Int) == 0) = true := beq_iff_eq.mpr c66
          have c66b1 : ((t894.length : Int) != 0) = false := bne_eq_false_iff_eq.mpr c66
          clear c66
          replace H := Option.bind_eq_some_iff.mp H
          obtain ⟨t909, A670, H⟩ := H
          replace H : (some t909) = some r := H
          have A67 := Aside0.mk A670
          clear A670
          obtain rfl := Option.some.inj H
          obtain ⟨hcz68_0, hcz68_1⟩ := cz2 BK891.out
          obtain ⟨hfz68_0, hfz68_1⟩ := fz2 BK891.out
          go_wp2_with (first | ((with_reducible refine gate_callee (f := 34) rfl ?_); refine goesL_ (some 64) rfl rfl Tryz.func34 (by kernel_rfl) rfl #[.agg #[.slice A0_0 l0_0.length c0_0, .slice A0_1 l0_1.length c0_1], .slice A1 l1.length c1, .int .i64 a2, .int .i64 a3] rfl uM ?_; (with_reducible refine (quinariaref02_Plan.calls kj16 _ _ l0_0 _ _ l0_1 _ _ l1 a2 a3 t903 false _ ?side1 ?side2 ?side3 ?side4 ?side5 ?side6 A48.out).mono ?_); (case side1 => exact uC (Kd.C_below HR0_0.out HB.out)); (case side2 => exact HC0_0.out); (case side3 => exact uC (Kd.C_below HR0_1.out HB.out)); (case side4 => exact HC0_1.out); (case side5 => exact uC (Kd.C_below HR1.out HB.out)); (case side6 => exact HC1.out); rintro e w69 ⟨v904, rfl, ho0, hb⟩; refine ⟨_, rfl, ?_⟩; have n0_ := Aside0.mk (Kd.R_elder' (uR HO_9.out) (Kd.R_base ho0) hb); have n1_ := Aside0.mk (Kd.R_lower (Kd.R_new' ho0 (Kd.R_lt (uR HO_9.out))) (below_size uB)); have n2_ := Aside0.mk (blk_below (uK BK891.out) hb); have n3_ := Aside0.mk (below_step uB hb); clear HO_9; clear BK891; clear HB; have HO_9 := n0_; have HO905 := n1_; have BK891 := n2_; have HB := n3_; clear n0_ n1_ n2_ n3_; (try clear hb); (try clear hb2); (try clear hk); (try clear hi); (try clear ho0); obtain ⟨Ao70, co70, eo70⟩ := Kd.R_slice HO_9.out; subst eo70) | (go_at_call 17; (with_reducible refine (quinarialaw02_known.calls kj16  t909 _ ?sideT A67.out).mono ?_); (case sideT => exact HT.out.below uB); rintro e w71 ⟨rfl, hb⟩; replace HO_9 := Aside0.mk (Kd.R_below (uR HO_9.out) hb); replace HO905 := Aside0.mk (Kd.R_below (uR HO905.out) hb); replace BK891 := Aside0.mk (blk_below (uK BK891.out) hb); replace HB := Aside0.mk (below_step uB hb); (try clear hb); (try clear hb2); (try clear hk); (try clear hi)))
          go_ret
          exact ⟨uE, uB⟩
         ·rw [if_neg c66] at H
          have c66b0 : ((t894.length : Int) == 0) = false := beq_eq_false_iff_ne.mpr c66
          have c66b1 : ((t894.length : Int) != 0) = true := bne_iff_ne.mpr c66
          have c66b2 : ¬ (t894 = []) := fun h_ => c66 (by rw [h_]; rfl)
          obtain rfl := Option.some.inj H
          obtain ⟨hcz72_0, hcz72_1⟩ := cz2 BK891.out
          obtain ⟨hfz72_0, hfz72_1⟩ := fz2 BK891.out
          go_wp2_with (first | ((with_reducible refine gate_callee (f := 34) rfl ?_); refine goesL_ (some 64) rfl rfl Tryz.func34 (by kernel_rfl) rfl #[.agg #[.slice A0_0 l0_0.length c0_0, .slice A0_1 l0_1.length c0_1], .slice A1 l1.length c1, .int .i64 a2, .int .i64 a3] rfl uM ?_; (with_reducible refine (quinariaref02_Plan.calls kj16 _ _ l0_0 _ _ l0_1 _ _ l1 a2 a3 t903 false _ ?side1 ?side2 ?side3 ?side4 ?side5 ?side6 A48.out).mono ?_); (case side1 => exact uC (Kd.C_below HR0_0.out HB.out)); (case side2 => exact HC0_0.out); (case side3 => exact uC (Kd.C_below HR0_1.out HB.out)); (case side4 => exact HC0_1.out); (case side5 => exact uC (Kd.C_below HR1.out HB.out)); (case side6 => exact HC1.out); rintro e w73 ⟨v904, rfl, ho0, hb⟩; refine ⟨_, rfl, ?_⟩; have n0_ := Aside0.mk (Kd.R_elder' (uR HO_9.out) (Kd.R_base ho0) hb); have n1_ := Aside0.mk (Kd.R_lower (Kd.R_new' ho0 (Kd.R_lt (uR HO_9.out))) (below_size uB)); have n2_ := Aside0.mk (blk_below (uK BK891.out) hb); have n3_ := Aside0.mk (below_step uB hb); clear HO_9; clear BK891; clear HB; have HO_9 := n0_; have HO905 := n1_; have BK891 := n2_; have HB := n3_; clear n0_ n1_ n2_ n3_; (try clear hb); (try clear hb2); (try clear hk); (try clear hi); (try clear ho0); obtain ⟨Ao74, co74, eo74⟩ := Kd.R_slice HO_9.out; subst eo74))
          go_ret
          exact ⟨uE, uB⟩
        ·rw [if_neg c65] at H
         have c65b0 : (t897 == 5) = false := beq_eq_false_iff_ne.mpr c65
         have c65b1 : (t897 != 5) = true := bne_iff_ne.mpr c65
         obtain rfl := Option.some.inj H
         obtain ⟨hcz75_0, hcz75_1⟩ := cz2 BK891.out
         obtain ⟨hfz75_0, hfz75_1⟩ := fz2 BK891.out
         go_wp2_with (first | ((with_reducible refine gate_callee (f := 34) rfl ?_); refine goesL_ (some 64) rfl rfl Tryz.func34 (by kernel_rfl) rfl #[.agg #[.slice A0_0 l0_0.length c0_0, .slice A0_1 l0_1.length c0_1], .slice A1 l1.length c1, .int .i64 a2, .int .i64 a3] rfl uM ?_; (with_reducible refine (quinariaref02_Plan.calls kj16 _ _ l0_0 _ _ l0_1 _ _ l1 a2 a3 t903 false _ ?side1 ?side2 ?side3 ?side4 ?side5 ?side6 A48.out).mono ?_); (case side1 => exact uC (Kd.C_below HR0_0.out HB.out)); (case side2 => exact HC0_0.out); (case side3 => exact uC (Kd.C_below HR0_1.out HB.out)); (case side4 => exact HC0_1.out); (case side5 => exact uC (Kd.C_below HR1.out HB.out)); (case side6 => exact HC1.out); rintro e w76 ⟨v904, rfl, ho0, hb⟩; refine ⟨_, rfl, ?_⟩; have n0_ := Aside0.mk (Kd.R_elder' (uR HO_9.out) (Kd.R_base ho0) hb); have n1_ := Aside0.mk (Kd.R_lower (Kd.R_new' ho0 (Kd.R_lt (uR HO_9.out))) (below_size uB)); have n2_ := Aside0.mk (blk_below (uK BK891.out) hb); have n3_ := Aside0.mk (below_step uB hb); clear HO_9; clear BK891; clear HB; have HO_9 := n0_; have HO905 := n1_; have BK891 := n2_; have HB := n3_; clear n0_ n1_ n2_ n3_; (try clear hb); (try clear hb2); (try clear hk); (try clear hi); (try clear ho0)))
         go_ret
         exact ⟨uE, uB⟩
end Go.Proofs.YtdmdahafiiggiaaGreatDoor.K
end
section
namespace Go.Proofs.YtdmdahafiiggiaaGreatDoor.K
open Go.RowKit Go.Proofs.YtdmdahafiiggiaaGreatDoorW.PrintWords Go.Proofs.YtdmdahafiiggiaaGreatDoorW.PrintLast Go.Proofs.YtdmdahafiiggiaaGreatDoorW.PrintMore
set_option linter.unusedVariables false
set_option linter.unusedSimpArgs false
theorem cupsN_anti {sp : List Int} {st : List S32} (h : isLineB sp st = true) {n : Int} (hn : numB st n = true) {a a' r r' : Int} (a0 : 0 ≤ a) (ha : a ≤ a') (r0 : 0 ≤ r) (hr : r ≤ r') : cupsN sp st n a' r' ≤ cupsN sp st n a r := by
  have hn := num_range hn
  have hs := line_at h hn.1 hn.2
  unfold cupsN
  have h1 : r * a ≤ r' * a' := Int.mul_le_mul hr ha a0 (by omega)
  have h0 : 0 ≤ r * a := Int.mul_nonneg r0 a0
  have hl : r * a / 100 ≤ r' * a' / 100 := Int.ediv_le_ediv (by omega) h1
  have hl0 : 0 ≤ r * a / 100 := by omega
  generalize r * a / 100 = l at *
  generalize r' * a' / 100 = l' at *
  generalize rd_T32 st n = s at *
  unfold carry
  have := hs.s0
  have m1 : mx 0 (s.f0 - 2 * l') ≤ mx 0 (s.f0 - 2 * l) := by unfold mx; split <;> split <;> omega
  have m2 : mx 0 (s.f1 - l') ≤ mx 0 (s.f1 - l) := by unfold mx; split <;> split <;> omega
  exact Int.mul_le_mul_of_nonneg_right (Int.mul_le_mul m1 m2 (mx_ge 0 _).1 (mx_ge 0 _).1) (by omega)
end Go.Proofs.YtdmdahafiiggiaaGreatDoor.K
end
section
namespace Go.Proofs.YtdmdahafiiggiaaGreatDoor.K
open Go.RowKit Go.Proofs.YtdmdahafiiggiaaGreatDoorW.PrintWords Go.Proofs.YtdmdahafiiggiaaGreatDoorW.PrintLast Go.Proofs.YtdmdahafiiggiaaGreatDoorW.PrintMore
attribute [local go_sem] max2_int min2_int max_two min_two max_three min_three max_four min_four
set_option linter.unusedVariables false
set_option linter.unusedSimpArgs false
def quinariaref02_Line.l0 : Nat → List Int → Int → List Int → List (S32) → Int → Int → Option (Int × Int)
 | 0, _, _, _, _, _, _ => none
 | k + 1, x1, x6, x631000, x631001, x633000, x633001 => if x6 < (x631001.length : Int) then (if 0 ≤ x6 then (if x6 < (x1.length : Int) then ((quinariaref02_Carries.f k x631000 x631001 x6 (rd x1 x6)).bind fun bt634 => (quinariaref02_Line.l0 k x1 (wrap64 (x6 + 1)) x631000 x631001 (mn x633000 bt634.1) (mn x633001 bt634.2))) else (none)) else (none)) else (some (x633000, x633001))
def quinariaref02_Line.f (k : Nat) (l0_0 : List Int) (l0_1 : List (S32)) (l1 : List Int) : Option (Int × Int) := quinariaref02_Line.l0 k l1 0 l0_0 l0_1 10000001 10000001
end Go.Proofs.YtdmdahafiiggiaaGreatDoor.K
end
section
namespace Go.Proofs.YtdmdahafiiggiaaGreatDoor.K
open Go.RowKit Go.Proofs.YtdmdahafiiggiaaGreatDoorW.PrintWords Go.Proofs.YtdmdahafiiggiaaGreatDoorW.PrintLast Go.Proofs.YtdmdahafiiggiaaGreatDoorW.PrintMore
attribute [local go_sem] max2_int min2_int max_two min_two max_three min_three max_four min_four
set_option linter.unusedVariables false
set_option linter.unusedSimpArgs false
mutual
def quinariaref02_Narrowest.l0 : Nat → List Int → List Int → Int → List Int → List (S32) → Option (List Int)
 | 0, _, _, _, _, _ => none
 | k + 1, x1, x5, x6, x638000, x638001 => if x6 < (x638001.length : Int) then (if 0 ≤ x6 then (if x6 < (x1.length : Int) then ((quinariaref02_Carries.f k x638000 x638001 x6 (rd x1 x6)).bind fun bt639 => (quinariaref02_Narrowest.l1 k x1 x5 x6 bt639.1 true 0 x638000 x638001)) else (none)) else (none)) else (some x5)
def quinariaref02_Narrowest.l1 : Nat → List Int → List Int → Int → Int → Bool → Int → List Int → List (S32) → Option (List Int)
 | 0, _, _, _, _, _, _, _, _ => none
 | k + 1, x1, x5, x6, x7, x8, x9, x638000, x638001 => if x9 < (x638001.length : Int) then (if x8 = true then (if x9 = x6 then (quinariaref02_Narrowest.l1 k x1 x5 x6 x7 true (wrap64 (x9 + 1)) x638000 x638001) else (if 0 ≤ x9 then (if x9 < (x1.length : Int) then ((quinariaref02_Carries.f k x638000 x638001 x9 (rd x1 x9)).bind fun bt642 => (quinariaref02_Narrowest.l1 k x1 x5 x6 x7 (decide (x7 ≤ bt642.2)) (wrap64 (x9 + 1)) x638000 x638001)) else (none)) else (none))) else (quinariaref02_Narrowest.l1 k x1 x5 x6 x7 false (wrap64 (x9 + 1)) x638000 x638001)) else (if x8 = true then (if x5.length < 17592186044416 then (quinariaref02_Narrowest.l0 k x1 (x5 ++ [x6]) (wrap64 (x6 + 1)) x638000 x638001) else (none)) else (quinariaref02_Narrowest.l0 k x1 x5 (wrap64 (x6 + 1)) x638000 x638001))
end
def quinariaref02_Narrowest.f (k : Nat) (l0_0 : List Int) (l0_1 : List (S32)) (l1 : List Int) : Option (List Int) := quinariaref02_Narrowest.l0 k l1 ([] : List Int) 0 l0_0 l0_1
end Go.Proofs.YtdmdahafiiggiaaGreatDoor.K
end
section
namespace Go.Proofs.YtdmdahafiiggiaaGreatDoor.K
open Go.RowKit Go.Proofs.YtdmdahafiiggiaaGreatDoorW.PrintWords Go.Proofs.YtdmdahafiiggiaaGreatDoorW.PrintLast Go.Proofs.YtdmdahafiiggiaaGreatDoorW.PrintMore
set_option linter.unusedVariables false
set_option linter.unusedSimpArgs false
abbrev ST := S32
variable {sp : List Int} {st : List ST}
theorem w1 {x : Int} (h0 : -1 ≤ x) (h : x < 9223372036854775807) : wrap64 (x + 1) = x + 1 := IntWalk.wrap64_in _ (by omega)
theorem rd_at (l : List Int) (j : Nat) : rd l (j : Int) = l.getD j 0 := by simp [rd]
theorem getD_mem {α : Type} {l : List α} {j : Nat} (d : α) (h : j < l.length) : l.getD j d ∈ l := by
  rw [List.getD, List.getElem?_eq_getElem h]
  exact List.getElem_mem h
theorem short_f (sp : List Int) (st : List ST) : quinarialaw02_short.f sp st = some (shortB sp st) := by
  unfold quinarialaw02_short.f shortB
  by_cases h1 : sp.length ≤ 13
  · rw [if_pos (by omega)]
    by_cases h2 : st.length ≤ 10
    · simp [h1, h2]; omega
    · simp [h1, h2]; omega
  · rw [if_neg (by omega)]; simp [h1]
theorem cupsN_range (h : isLineB sp st = true) {n age rate : Int} (hn : numB st n = true) (a0 : 0 ≤ age) (r0 : 0 ≤ rate) : 0 ≤ cupsN sp st n age rate ∧ cupsN sp st n age rate ≤ 10000000 := by
  have hn := num_range hn
  have hs := line_at h hn.1 hn.2
  have hp : 0 ≤ rate * age := Int.mul_nonneg r0 a0
  unfold cupsN
  have hl : 0 ≤ rate * age / 100 := by omega
  generalize rate * age / 100 = l at *
  generalize rd_T32 st n = s at *
  obtain ⟨b0, b1, d0, d1, -, -, -, -, -, s0, s1⟩ := hs
  unfold carry
  have hp := prod_range (mx_ge 0 (s.f0 - 2 * l)).1 (mx_le (show (0 : Int) ≤ 100 by omega) (show s.f0 - 2 * l ≤ 100 by omega)) (mx_ge 0 (s.f1 - l)).1 (mx_le (show (0 : Int) ≤ 100 by omega) (show s.f1 - l ≤ 100 by omega)) (show 0 ≤ rd sp s.f2 by omega) s1
  omega
theorem rcar_from (h : isLineB sp st = true) {n age : Int} (hn : numB st n = true) (ha : inB age 0 200 = true) : ∀ (d : Nat) (r : Int) (K : Nat), (rd_T32 st n).f3.f0 < r → r + d = (rd_T32 st n).f3.f1 + 1 → d < K →
    quinariaref02_Carries.l0 K n age r sp st (cupsN sp st n age (r - 1)) (mostN sp st n age) = some (leastN sp st n age, mostN sp st n age)
  | 0, r, K + 1, h1, h2, hK => by
    have hn' := num_range hn
    unfold quinariaref02_Carries.l0
    rw [if_pos hn'.1, if_pos hn'.2, if_neg (by omega), show r - 1 = (rd_T32 st n).f3.f1 by omega]
    rfl
  | d + 1, r, K + 1, h1, h2, hK => by
    have hn' := num_range hn
    have hs := line_at h hn'.1 hn'.2
    obtain ⟨-, -, -, -, -, -, l0, lh, lh1, -, -⟩ := hs
    have ha' := age_range ha
    unfold quinariaref02_Carries.l0
    rw [if_pos hn'.1, if_pos hn'.2, if_pos (by omega), cupsR_f h hn ha (by omega) (by omega), Option.bind_some, w1 (by omega) (by omega)]
    have e1 : mn (cupsN sp st n age (r - 1)) (cupsN sp st n age r) = cupsN sp st n age (r + 1 - 1) := by
      rw [show r + 1 - 1 = r by omega]
      have := cupsN_anti h hn ha'.1 (Int.le_refl age) (show 0 ≤ r - 1 by omega) (show r - 1 ≤ r by omega)
      unfold mn; split <;> omega
    have e2 : mx (mostN sp st n age) (cupsN sp st n age r) = mostN sp st n age := by
      have := cupsN_anti h hn ha'.1 (Int.le_refl age) l0 (show (rd_T32 st n).f3.f0 ≤ r by omega)
      unfold mx mostN; split <;> omega
    rw [e1, e2]
    exact rcar_from h hn ha d (r + 1) K (by omega) (by omega) (by omega)
theorem rcar_f (h : isLineB sp st = true) {n age : Int} (hn : numB st n = true) (ha : inB age 0 200 = true) (K : Nat) (hK : 102 < K) : quinariaref02_Carries.f K sp st n age = some (leastN sp st n age, mostN sp st n age) := by
  have hn' := num_range hn
  have hs := line_at h hn'.1 hn'.2
  obtain ⟨-, -, -, -, -, -, l0, lh, lh1, -, -⟩ := hs
  have ha' := age_range ha
  unfold quinariaref02_Carries.f
  rw [if_pos hn'.1, if_pos hn'.2]
  obtain ⟨K, rfl⟩ : ∃ k, K = k + 1 := ⟨K - 1, by omega⟩
  unfold quinariaref02_Carries.l0
  rw [if_pos hn'.1, if_pos hn'.2, if_pos lh, cupsR_f h hn ha l0 (by omega), Option.bind_some, w1 (by omega) (by omega)]
  have hr := cupsN_range h hn ha'.1 l0 (rate := (rd_T32 st n).f3.f0)
  have e1 : mn 10000001 (cupsN sp st n age (rd_T32 st n).f3.f0) = cupsN sp st n age ((rd_T32 st n).f3.f0 + 1 - 1) := by
    rw [Int.add_sub_cancel]; unfold mn; split <;> omega
  have e2 : mx (-1) (cupsN sp st n age (rd_T32 st n).f3.f0) = mostN sp st n age := by
    unfold mx mostN; split <;> omega
  rw [e1, e2]
  exact rcar_from h hn ha ((rd_T32 st n).f3.f1 - (rd_T32 st n).f3.f0).toNat _ K (by omega) (by omega) (by omega)
theorem ages_from (ages : List Int) (hl : ages.length ≤ 1000000) (hs : st.length ≤ 1000000) : ∀ (d j K : Nat), j + d = ages.length → d < K → quinariaref02_Ages.l0 K ages (j : Int) sp st = some ((ages.drop j).all (fun x => inB x 0 200) && (ages.length == st.length))
  | 0, j, K + 1, hj, hK => by
    unfold quinariaref02_Ages.l0
    rw [if_neg (by omega), List.drop_eq_nil_of_le (by omega), List.all_nil, Bool.true_and]
    congr 1
    rw [beq_cast]
    by_cases e : ages.length = st.length <;> simp [e]
  | d + 1, j, K + 1, hj, hK => by
    unfold quinariaref02_Ages.l0 quinariaref02_Age.f
    rw [if_pos (by omega), if_pos (by omega), inR_f, Option.bind_some, Option.bind_some, w1 (by omega) (by omega), all_drop _ 0 _ _ (by omega)]
    have e : rd ages (j : Int) = ages.getD j 0 := by simp [rd]
    rw [e]
    have ih := ages_from ages hl hs d (j + 1) K (by omega) (by omega)
    cases h1 : inB (ages.getD j 0) 0 200 with
    | true => simpa using ih
    | false => simp
theorem ages_f (ages : List Int) (hl : ages.length ≤ 1000000) (hs : st.length ≤ 1000000) (K : Nat) (hK : ages.length < K) : quinariaref02_Ages.f K sp st ages = some (areAgesB st.length ages) := by
  unfold quinariaref02_Ages.f areAgesB
  have := ages_from (sp := sp) ages hl hs ages.length 0 K (by omega) hK
  rw [show ((0 : Nat) : Int) = 0 from rfl] at this
  rw [this, List.drop_zero, Bool.and_comm]
theorem numB_of {j : Nat} (h : j < st.length) : numB st (j : Int) = true := by simp [numB, inB]; omega
theorem ages_all {ages : List Int} (h : areAgesB st.length ages = true) : ages.length = st.length ∧ ∀ a ∈ ages, inB a 0 200 = true := by
  simp only [areAgesB, Bool.and_eq_true, beq_iff_eq] at h
  exact ⟨h.1, fun a ha => List.all_eq_true.mp h.2 a ha⟩
theorem same_from (l : List Int) (hl : l.length ≤ 1000000) : ∀ (d j K : Nat), j + d = l.length → d < K → quinariaref02_Same.l0 K l l (j : Int) = some true
  | 0, j, K + 1, hj, hK => by
    unfold quinariaref02_Same.l0
    rw [if_neg (by omega)]
  | d + 1, j, K + 1, hj, hK => by
    unfold quinariaref02_Same.l0
    rw [if_pos (by omega), if_pos (by omega), if_pos (by omega), if_pos rfl, w1 (by omega) (by omega)]
    exact same_from l hl d (j + 1) K (by omega) (by omega)
theorem same_f (l : List Int) (hl : l.length ≤ 1000000) (K : Nat) (hK : l.length < K) : quinariaref02_Same.f K l l = some true := by
  unfold quinariaref02_Same.f
  rw [if_pos rfl]
  exact same_from l hl l.length 0 K (by omega) hK
end Go.Proofs.YtdmdahafiiggiaaGreatDoor.K
end
section
namespace Go.Proofs.YtdmdahafiiggiaaGreatDoor.K
open Go.RowKit Go.Proofs.YtdmdahafiiggiaaGreatDoorW.PrintWords Go.Proofs.YtdmdahafiiggiaaGreatDoorW.PrintLast Go.Proofs.YtdmdahafiiggiaaGreatDoorW.PrintMore
set_option linter.unusedVariables false
set_option linter.unusedSimpArgs false
variable {A0 A1 : Option Addr} {c0 c1 : Nat} {sp : List Int} {st : List S32} {w : World}
theorem lat_spec {need n : Int} (hm : ∀ a b : Int, 0 ≤ a → a ≤ b → leastN sp st n b ≤ leastN sp st n a) : ∀ (k : Nat) (a : Int), 0 ≤ a →
    (∀ b, a ≤ b → b ≤ latFrom sp st n need k a → need ≤ leastN sp st n b) ∧ (latFrom sp st n need k a < a - 1 + k → leastN sp st n (latFrom sp st n need k a + 1) < need)
  | 0, a, ha => ⟨fun b h1 h2 => by simp only [latFrom] at h2; omega, fun h => by simp only [latFrom] at h; omega⟩
  | k + 1, a, ha => by
    simp only [latFrom]
    by_cases hc : leastN sp st n a < need
    · rw [if_pos hc]
      exact ⟨fun b h1 h2 => by omega, fun _ => by rw [show a - 1 + 1 = a by omega]; exact hc⟩
    · rw [if_neg hc]
      have ih := lat_spec (need := need) hm k (a + 1) (by omega)
      refine ⟨fun b h1 h2 => ?_, fun h => ih.2 (by omega)⟩
      by_cases hb : b = a
      · subst hb; omega
      · exact ih.1 b (by omega) h2
theorem least_anti (h : isLineB sp st = true) {n : Int} (hn : numB st n = true) {a b : Int} (ha : 0 ≤ a) (hb : a ≤ b) : leastN sp st n b ≤ leastN sp st n a := by
  have hn' := num_range hn
  have hs := line_at h hn'.1 hn'.2
  exact cupsN_anti h hn ha hb (by have := hs.l0; have := hs.lh; omega) (Int.le_refl _)
theorem latN_iff (h : isLineB sp st = true) {n : Int} (hn : numB st n = true) (need : Int) {a : Int} (a0 : 0 ≤ a) (a1 : a ≤ 200) : need ≤ leastN sp st n a ↔ a ≤ latN sp st n need := by
  have hm : ∀ a b : Int, 0 ≤ a → a ≤ b → leastN sp st n b ≤ leastN sp st n a := fun a b h1 h2 => least_anti h hn h1 h2
  have hl := lat_spec (need := need) hm 201 0 (by omega)
  have hr := latN_range sp st n need
  change (∀ b, 0 ≤ b → b ≤ latN sp st n need → need ≤ leastN sp st n b) ∧ (latN sp st n need < 0 - 1 + ((201 : Nat) : Int) → leastN sp st n (latN sp st n need + 1) < need) at hl
  refine ⟨fun hc => ?_, fun hc => hl.1 a a0 hc⟩
  by_cases hx : a ≤ latN sp st n need
  · exact hx
  · have h1 := hl.2 (by omega)
    have h2 := hm (latN sp st n need + 1) a (by omega) (by omega)
    omega
end Go.Proofs.YtdmdahafiiggiaaGreatDoor.K
end
section
namespace Go.Proofs.YtdmdahafiiggiaaGreatDoor.K.Pl
def cnt (l : List Int) (t : Int) : Nat := l.countP fun x => decide (x ≤ t)
theorem cnt_nil (t : Int) : cnt [] t = 0 := rfl
theorem cnt_cons (a : Int) (l : List Int) (t : Int) : cnt (a :: l) t = cnt l t + if a ≤ t then 1 else 0 := by
 unfold cnt; rw [List.countP_cons]; by_cases h : a ≤ t <;> simp [h]
theorem cnt_perm {l m : List Int} (h : l.Perm m) (t : Int) : cnt l t = cnt m t := h.countP_eq _
theorem cnt_le_len (l : List Int) (t : Int) : cnt l t ≤ l.length := List.countP_le_length
theorem cnt_mono (l : List Int) {s t : Int} (h : s ≤ t) : cnt l s ≤ cnt l t := by
 induction l with
 | nil => exact Nat.le_refl _
 | cons a l ih => rw [cnt_cons, cnt_cons]; split <;> split <;> omega
theorem cnt_erase {l : List Int} {y : Int} (h : y ∈ l) (t : Int) : cnt (l.erase y) t + (if y ≤ t then 1 else 0) = cnt l t := by
 have := cnt_perm (List.perm_cons_erase h) t
 rw [cnt_cons] at this; omega
def Fills (l m : List Int) : Prop := ∀ t, cnt l t ≤ cnt m t
theorem cnt_all {l : List Int} {t : Int} (h : ∀ x ∈ l, x ≤ t) : cnt l t = l.length := by
 unfold cnt; rw [List.countP_eq_length]; simpa using h
theorem cnt_eq_zero {l : List Int} {t : Int} (h : cnt l t = 0) : ∀ x ∈ l, t < x := by
 unfold cnt at h; rw [List.countP_eq_zero] at h; intro x hx; have := h x hx; simp at this; omega
theorem greatest_le {m : List Int} {a : Int} (h : 0 < cnt m a) : ∃ y ∈ m, y ≤ a ∧ ∀ x ∈ m, x ≤ a → x ≤ y := by
 induction m with
 | nil => simp [cnt] at h
 | cons b m ih =>
  by_cases h0 : 0 < cnt m a
  ·obtain ⟨y, hy, hya, hmax⟩ := ih h0
   by_cases hb : b ≤ a ∧ y < b
   ·refine ⟨b, List.mem_cons_self, hb.1, ?_⟩
    intro x hx hxa
    rcases List.mem_cons.1 hx with rfl | hx
    ·exact Int.le_refl _
    ·have := hmax x hx hxa; omega
   ·refine ⟨y, List.mem_cons_of_mem _ hy, hya, ?_⟩
    intro x hx hxa
    rcases List.mem_cons.1 hx with rfl | hx
    ·omega
    ·exact hmax x hx hxa
  ·have hz : cnt m a = 0 := by omega
   rw [cnt_cons, hz] at h
   have hba : b ≤ a := by
    by_cases hba : b ≤ a
    ·exact hba
    ·rw [if_neg hba] at h; omega
   refine ⟨b, List.mem_cons_self, hba, ?_⟩
   intro x hx hxa
   rcases List.mem_cons.1 hx with rfl | hx
   ·exact Int.le_refl _
   ·have := cnt_eq_zero hz x hx; omega
theorem cnt_same {m : List Int} {y a t : Int} (h : ∀ x ∈ m, x ≤ a → x ≤ y) (h1 : y ≤ t) (h2 : t ≤ a) : cnt m t = cnt m a := by
 unfold cnt
 apply List.countP_congr
 intro x hx
 have := h x hx
 simp
 constructor
 ·intro; omega
 ·intro hxa; have := this hxa; omega
theorem fills_step {a : Int} {l m : List Int} (h : Fills (a :: l) m) : ∃ y ∈ m, y ≤ a ∧ Fills l (m.erase y) := by
 have ha := h a
 rw [cnt_cons, if_pos (Int.le_refl a)] at ha
 obtain ⟨y, hy, hya, hmax⟩ := greatest_le (m := m) (a := a) (by omega)
 refine ⟨y, hy, hya, ?_⟩
 intro t
 have he := cnt_erase hy t
 have ht := h t
 rw [cnt_cons] at ht
 by_cases h1 : y ≤ t
 ·rw [if_pos h1] at he
  by_cases h2 : a ≤ t
  ·rw [if_pos h2] at ht; omega
  ·have hs := cnt_same hmax h1 (by omega : t ≤ a)
   have := cnt_mono l (by omega : t ≤ a)
   omega
 ·rw [if_neg h1] at he
  rw [if_neg (by omega)] at ht
  omega
theorem fills_of_way {l m : List Int} (hl : l.length = m.length) (h : ∀ i, (hi : i < l.length) → m[i]'(by omega) ≤ l[i]) : Fills l m := by
 induction l generalizing m with
 | nil => intro t; rw [cnt_nil]; exact Nat.zero_le _
 | cons a l ih =>
  cases m with
  | nil => simp at hl
  | cons b m =>
   have h0 := h 0 (by simp)
   simp at h0
   have := ih (m := m) (by simpa using hl) (fun i hi => by have := h (i + 1) (by simpa using hi); simpa using this)
   intro t
   have ht := this t
   rw [cnt_cons, cnt_cons]
   split <;> split <;> omega
theorem fills_perm {l l' m m' : List Int} (h : Fills l m) (hl : l.Perm l') (hm : m.Perm m') : Fills l' m' := fun t => by rw [← cnt_perm hl, ← cnt_perm hm]; exact h t
theorem cnt_sorted_take {l : List Int} (hs : l.Pairwise (· ≤ ·)) (i : Nat) (hi : i < l.length) : i + 1 ≤ cnt l l[i] := by
 have h1 : ∀ x ∈ l.take (i + 1), x ≤ l[i] := by
  intro x hx
  obtain ⟨j, hj, rfl⟩ := List.mem_iff_getElem.1 hx
  rw [List.length_take] at hj
  rw [List.getElem_take]
  rcases Nat.lt_or_ge j i with h | h
  ·exact (List.pairwise_iff_getElem.1 hs) j i (by omega) hi h
  ·have : j = i := by omega
   subst this; exact Int.le_refl _
 have h2 := cnt_all h1
 have h3 : cnt (l.take (i + 1)) l[i] ≤ cnt l l[i] := by
  have : cnt l l[i] = cnt (l.take (i + 1)) l[i] + cnt (l.drop (i + 1)) l[i] := by
   unfold cnt; rw [← List.countP_append, List.take_append_drop]
  omega
 rw [h2, List.length_take] at h3
 omega
theorem cnt_sorted_lt {l : List Int} (hs : l.Pairwise (· ≤ ·)) (i : Nat) (hi : i < l.length) (t : Int) (ht : t < l[i]) : cnt l t ≤ i := by
 have : cnt l t = cnt (l.take i) t + cnt (l.drop i) t := by
  unfold cnt; rw [← List.countP_append, List.take_append_drop]
 have h2 : cnt (l.drop i) t = 0 := by
  unfold cnt; rw [List.countP_eq_zero]
  intro x hx
  obtain ⟨j, hj, rfl⟩ := List.mem_iff_getElem.1 hx
  rw [List.getElem_drop]
  rw [List.length_drop] at hj
  have : l[i] ≤ l[i + j] := by
   rcases Nat.eq_zero_or_pos j with h | h
   ·subst h; exact Int.le_refl _
   ·exact (List.pairwise_iff_getElem.1 hs) i (i + j) hi (by omega) (by omega)
  simp; omega
 have h3 := cnt_le_len (l.take i) t
 rw [List.length_take] at h3
 omega
theorem fills_sorted {l m : List Int} (hl : l.length = m.length) (sl : l.Pairwise (· ≤ ·)) (sm : m.Pairwise (· ≤ ·)) : Fills l m ↔ ∀ i, (hi : i < l.length) → m[i]'(by omega) ≤ l[i] := by
 constructor
 ·intro h i hi
  have h1 := cnt_sorted_take sl i hi
  have h2 := h l[i]
  apply Int.not_lt.1
  intro hlt
  have := cnt_sorted_lt sm i (by omega) l[i] hlt
  omega
 ·exact fills_of_way hl
def cge (l : List Int) (y : Int) : Nat := l.countP fun x => decide (y ≤ x)
theorem cge_cons (a : Int) (l : List Int) (t : Int) : cge (a :: l) t = cge l t + if t ≤ a then 1 else 0 := by
 unfold cge; rw [List.countP_cons]; by_cases h : t ≤ a <;> simp [h]
theorem cge_cnt (l : List Int) (t : Int) : cge l t + cnt l (t - 1) = l.length := by
 induction l with
 | nil => rfl
 | cons a l ih => rw [cge_cons, cnt_cons, List.length_cons]; split <;> split <;> omega
theorem cge_le_len (l : List Int) (t : Int) : cge l t ≤ l.length := List.countP_le_length
theorem cge_anti (l : List Int) {s t : Int} (h : s ≤ t) : cge l t ≤ cge l s := by
 have h1 := cge_cnt l t; have h2 := cge_cnt l s; have := cnt_mono l (by omega : s - 1 ≤ t - 1); omega
theorem cge_append (l m : List Int) (t : Int) : cge (l ++ m) t = cge l t + cge m t := List.countP_append
theorem cge_perm {l m : List Int} (h : l.Perm m) (t : Int) : cge l t = cge m t := h.countP_eq _
def grF (last : List Int) : Nat → Int → List Int → List Int
 | 0, _, out => out
 | k + 1, y, out => if out.length < last.length then (if out.length < cge last y then grF last k (y - 1) (out ++ [y]) else grF last k (y - 1) out) else out
theorem cge_lo {l : List Int} {t : Int} (h : ∀ x ∈ l, t ≤ x) : cge l t = l.length := by
 unfold cge; rw [List.countP_eq_length]; simpa using h
theorem cge_hi {l : List Int} {t : Int} (h : ∀ x ∈ l, x < t) : cge l t = 0 := by
 unfold cge; rw [List.countP_eq_zero]; intro x hx; have := h x hx; simp; omega
def StepAt (last R : List Int) (t : Int) : Prop := cge R t = if cge R (t + 1) < cge last t then cge R (t + 1) + 1 else cge R (t + 1)
theorem gr_spec (last : List Int) : ∀ (k : Nat) (y : Int) (out : List Int), (∀ x ∈ out, y < x) → out.length ≤ last.length →
  (∀ t, y < t → cge (grF last k y out) t = cge out t) ∧ (∀ t, y - k < t → t ≤ y → StepAt last (grF last k y out) t) ∧ (∀ x ∈ grF last k y out, y - k < x) ∧ (grF last k y out).length ≤ last.length
 | 0, y, out, ho, hl => by
  refine ⟨fun _ _ => rfl, fun t h1 h2 => ?_, fun x hx => by have := ho x hx; simp; omega, hl⟩
  simp at h1; omega
 | k + 1, y, out, ho, hl => by
  unfold grF
  by_cases h1 : out.length < last.length
  ·rw [if_pos h1]
   by_cases h2 : out.length < cge last y
   ·rw [if_pos h2]
    obtain ⟨a, b, c, d⟩ := gr_spec last k (y - 1) (out ++ [y]) (fun x hx => by rcases List.mem_append.1 hx with hx | hx; have := ho x hx; omega; simp at hx; omega) (by simp; omega)
    have e1 : cge (grF last k (y - 1) (out ++ [y])) (y + 1) = out.length := by
     rw [a _ (by omega), cge_append, cge_lo (fun x hx => by have := ho x hx; omega), cge_hi (l := [y]) (by simp; omega)]; rfl
    have e2 : cge (grF last k (y - 1) (out ++ [y])) y = out.length + 1 := by
     rw [a _ (by omega), cge_lo (fun x hx => by rcases List.mem_append.1 hx with hx | hx; have := ho x hx; omega; simp at hx; omega)]; simp
    refine ⟨fun t ht => ?_, fun t h3 h4 => ?_, fun x hx => by have := c x hx; omega, d⟩
    ·rw [a t (by omega), cge_append, cge_hi (l := [y]) (by simpa using ht)]; rfl
    ·by_cases e : t = y
     ·subst e; unfold StepAt; rw [e1, e2, if_pos h2]
     ·exact b t (by omega) (by omega)
   ·rw [if_neg h2]
    obtain ⟨a, b, c, d⟩ := gr_spec last k (y - 1) out (fun x hx => by have := ho x hx; omega) hl
    refine ⟨fun t ht => a t (by omega), fun t h3 h4 => ?_, fun x hx => by have := c x hx; omega, d⟩
    by_cases e : t = y
    ·subst e
     unfold StepAt
     have e1 : cge (grF last k (t - 1) out) (t + 1) = out.length := by rw [a _ (by omega), cge_lo (fun x hx => by have := ho x hx; omega)]
     rw [e1, a t (by omega), cge_lo (fun x hx => by have := ho x hx; omega), if_neg h2]
    ·exact b t (by omega) (by omega)
  ·rw [if_neg h1]
   refine ⟨fun _ _ => rfl, fun t h3 h4 => ?_, fun x hx => by have := ho x hx; omega, hl⟩
   unfold StepAt
   have := cge_le_len last t
   rw [cge_lo (fun x hx => by have := ho x hx; omega), cge_lo (fun x hx => by have := ho x hx; omega), if_neg (by omega)]
def gr (last : List Int) : List Int := grF last 41 40 []
theorem gr_le (last : List Int) : ∀ x ∈ gr last, 0 ≤ x := fun x hx => by
 have := (gr_spec last 41 40 [] (by simp) (by simp)).2.2.1 x hx; simp at this; omega
theorem gr_top (last : List Int) {t : Int} (h : 40 < t) : cge (gr last) t = 0 := (gr_spec last 41 40 [] (by simp) (by simp)).1 t h
theorem gr_step (last : List Int) {t : Int} (h0 : 0 ≤ t) (h1 : t ≤ 40) : StepAt last (gr last) t := (gr_spec last 41 40 [] (by simp) (by simp)).2.1 t (by simp; omega) h1
theorem gr_can (last : List Int) : ∀ (k : Nat) (t : Int), t + k = 41 → 0 ≤ t → cge (gr last) t ≤ cge last t
 | 0, t, ht, _ => by rw [gr_top last (by simp at ht; omega)]; exact Nat.zero_le _
 | k + 1, t, ht, h0 => by
  have ih := gr_can last k (t + 1) (by omega) (by omega)
  have hs := gr_step last h0 (by omega : t ≤ 40)
  have := cge_anti last (by omega : t ≤ t + 1)
  unfold StepAt at hs
  split at hs <;> omega
theorem gr_fills {last : List Int} (h : (gr last).length = last.length) : Fills last (gr last) := by
 intro t
 have h1 := cge_cnt last (t + 1)
 have h2 := cge_cnt (gr last) (t + 1)
 have e : t + 1 - 1 = t := by omega
 rw [e] at h1 h2
 have h0 : cge (gr last) 0 = (gr last).length := cge_lo (gr_le last)
 have h00 := gr_can last 41 0 (by simp) (by omega)
 have h3 : cge (gr last) (t + 1) ≤ cge last (t + 1) := by
  by_cases ht : 40 < t + 1
  ·rw [gr_top last ht]; exact Nat.zero_le _
  ·by_cases h4 : 0 ≤ t + 1
   ·exact gr_can last (41 - (t + 1)).toNat (t + 1) (by omega) h4
   ·have := cge_anti last (by omega : t + 1 ≤ 0); have := cge_le_len (gr last) (t + 1); omega
 omega
theorem gr_range (last : List Int) : ∀ x ∈ gr last, 0 ≤ x ∧ x ≤ 40 := fun x hx => ⟨gr_le last x hx, by
 have h := gr_top last (t := 41) (by omega)
 unfold cge at h; rw [List.countP_eq_zero] at h; have := h x hx; simp at this; omega⟩
theorem grF_nodup (last : List Int) : ∀ (k : Nat) (y : Int) (out : List Int), (∀ x ∈ out, y < x) → out.Nodup → (grF last k y out).Nodup
 | 0, _, _, _, hn => hn
 | k + 1, y, out, ho, hn => by
  unfold grF
  split
  ·split
   ·exact grF_nodup last k (y - 1) _ (fun x hx => by rcases List.mem_append.1 hx with hx | hx; have := ho x hx; omega; simp at hx; omega) (by
     rw [List.nodup_append]; refine ⟨hn, by simp, ?_⟩
     intro a ha b hb; simp at hb; have := ho a ha; omega)
   ·exact grF_nodup last k (y - 1) _ (fun x hx => by have := ho x hx; omega) hn
  ·exact hn
theorem gr_nodup (last : List Int) : (gr last).Nodup := grF_nodup last 41 40 [] (by simp) (by simp)
def Ok (a : Int) (l L : List Int) (y : Int) : Prop := y ∈ L ∧ y ≤ a ∧ Fills l (L.erase y)
inductive Least : List Int → List Int → List Int → Prop
 | nil (L : List Int) : Least [] L []
 | cons {a y : Int} {l L p : List Int} (h : Ok a l L y) (hm : ∀ z, Ok a l L z → y ≤ z) (hp : Least l (L.erase y) p) : Least (a :: l) L (y :: p)
theorem ok_some {a : Int} {l L : List Int} (h : Fills (a :: l) L) : ∃ y, Ok a l L y := by
 obtain ⟨y, h1, h2, h3⟩ := fills_step h; exact ⟨y, h1, h2, h3⟩
end Go.Proofs.YtdmdahafiiggiaaGreatDoor.K.Pl
end
section
namespace Go.Proofs.YtdmdahafiiggiaaGreatDoor.K
open Go.RowKit Go.Proofs.YtdmdahafiiggiaaGreatDoorW.PrintWords Go.Proofs.YtdmdahafiiggiaaGreatDoorW.PrintLast Go.Proofs.YtdmdahafiiggiaaGreatDoorW.PrintMore
set_option linter.unusedVariables false
set_option linter.unusedSimpArgs false
variable {sp : List Int} {st : List ST}
theorem rlat_from (h : isLineB sp st = true) {n : Int} (hn : numB st n = true) (need : Int) : ∀ (d K : Nat), latN sp st n need + d ≤ 200 → d + 103 < K → quinariaref02_Latest.l0 K n need (latN sp st n need + d) sp st = some (latN sp st n need)
 | 0, K + 1, hd, hK => by
  have hr := latN_range sp st n need
  unfold quinariaref02_Latest.l0
  rw [show latN sp st n need + ((0 : Nat) : Int) = latN sp st n need by omega]
  by_cases e : latN sp st n need ≥ 0
  ·rw [if_pos e, rcar_f h hn (by simp [inB]; omega) K (by omega), Option.bind_some, if_pos ((latN_iff h hn need e (by omega)).mpr (Int.le_refl _))]
  ·rw [if_neg e]
   congr 1
   omega
 | d + 1, K + 1, hd, hK => by
  have hr := latN_range sp st n need
  unfold quinariaref02_Latest.l0
  have hx : ¬ (leastN sp st n (latN sp st n need + ((d + 1 : Nat) : Int)) ≥ need) := fun hge => by
   have := (latN_iff h hn need (show 0 ≤ latN sp st n need + ((d + 1 : Nat) : Int) by omega) hd).mp hge
   omega
  rw [if_pos (by omega), rcar_f h hn (by simp [inB]; omega) K (by omega), Option.bind_some, if_neg hx, IntWalk.wrap64_in _ (by omega), show latN sp st n need + ((d + 1 : Nat) : Int) - 1 = latN sp st n need + (d : Int) by omega]
  exact rlat_from h hn need d K (by omega) (by omega)
theorem rlat_f (h : isLineB sp st = true) {n : Int} (hn : numB st n = true) (need : Int) (K : Nat) (hK : 310 < K) : quinariaref02_Latest.f K sp st n need = some (latN sp st n need) := by
 have hr := latN_range sp st n need
 unfold quinariaref02_Latest.f
 have := rlat_from h hn need (200 - latN sp st n need).toNat K (by omega) (by omega)
 rwa [show latN sp st n need + (((200 - latN sp st n need).toNat : Nat) : Int) = 200 by omega] at this
def lastV (x a untl : Int) : Int := if x = 200 then 1000 else if x - a ≥ untl then 1000 else x - a
theorem rlast_f (h : isLineB sp st = true) {n : Int} (hn : numB st n = true) (need a untl : Int) (a0 : 0 ≤ a) (a1 : a ≤ 200) (K : Nat) (hK : 310 < K) : quinariaref02_Last.f K sp st n a need untl = some (lastV (latN sp st n need) a untl) := by
 have hr := latN_range sp st n need
 unfold quinariaref02_Last.f lastV
 rw [rlat_f h hn need K hK, Option.bind_some, IntWalk.wrap64_in _ (by omega)]
 split
 ·rfl
 ·split <;> rfl
theorem grF_eq (last : List Int) : ∀ (k : Nat) (y : Int) (out : List Int), Pl.grF last k y out = grFrom last k y out
 | 0, y, out => rfl
 | k + 1, y, out => by
  unfold Pl.grF grFrom
  rw [grF_eq last k (y - 1) (out ++ [y]), grF_eq last k (y - 1) out]
  rfl
theorem gr_eq (last : List Int) : Pl.gr last = grN last := grF_eq last 41 40 []
theorem grFrom_full {last out : List Int} (h : ¬ out.length < last.length) : ∀ (k : Nat) (y : Int), grFrom last k y out = out
 | 0, y => rfl
 | k + 1, y => by unfold grFrom; rw [if_neg h]
theorem eraseIdx_eq (l : List Int) (i : Nat) (hi : i < l.length) : l.take i ++ l.drop (i + 1) = l.eraseIdx i := (List.eraseIdx_eq_take_drop_succ l i).symm
theorem perm_eraseIdx {l : List Int} {i : Nat} (hi : i < l.length) : (l[i] :: l.eraseIdx i).Perm l := by
 rw [← eraseIdx_eq l i hi]
 have e : l.take i ++ l[i] :: l.drop (i + 1) = l := by rw [← List.drop_eq_getElem_cons hi, List.take_append_drop]
 have := (List.perm_middle (a := l[i]) (l₁ := l.take i) (l₂ := l.drop (i + 1))).symm
 rwa [e] at this
theorem cge_eraseIdx {l : List Int} {i : Nat} (hi : i < l.length) (y : Int) : Pl.cge (l.eraseIdx i) y + (if y ≤ l[i] then 1 else 0) = Pl.cge l y := by
 have := Pl.cge_perm (perm_eraseIdx hi) y
 rw [Pl.cge_cons] at this
 exact this
theorem years_in (left out : List Int) (y : Int) (hy0 : 0 ≤ y) (hy1 : y ≤ 40) (hl : left.length ≤ 1000) (ho : out.length ≤ 1000) (B : Nat) (R : List Int × Bool)
  (h1 : ∀ i, (hi : i < left.length) → y ≤ left[i] → ∀ K, B ≤ K → quinariaref02_years.l0 K (out ++ [y]) (left.eraseIdx i) (y - 1) = some R)
  (h2 : (∀ x ∈ left, x < y) → ∀ K, B ≤ K → quinariaref02_years.l0 K out left (y - 1) = some R) :
  ∀ (d j K : Nat) (at_ : Int), j + d = left.length → B + d < K → ((at_ = -1 ∧ ∀ i, (hi : i < left.length) → i < j → left[i] < y) ∨ ∃ i, ∃ hi : i < left.length, at_ = (i : Int) ∧ y ≤ left[i]) →
   quinariaref02_years.l1 K out left y at_ (j : Int) = some R
 | 0, j, K + 1, at_, hj, hK, hat => by
  rw [quinariaref02_years.l1, if_neg (by omega)]
  rcases hat with ⟨rfl, hlt⟩ | ⟨i, hi, rfl, hge⟩
  ·rw [if_neg (by omega), IntWalk.wrap64_in _ (by omega)]
   refine h2 (fun x hx => ?_) K (by omega)
   obtain ⟨i, hi, rfl⟩ := List.mem_iff_getElem.mp hx
   exact hlt i hi (by omega)
  ·have e1 : wrap64 ((i : Int) + 1) = ((i + 1 : Nat) : Int) := by rw [w1 (by omega) (by omega)]; omega
   rw [if_pos (by omega), if_pos (by omega), if_pos (by omega), if_pos (by omega), Option.bind_some, if_pos (by simp; omega), Option.bind_some, e1, if_pos (by omega), if_pos (by omega), Option.bind_some, if_pos (by simp; omega), IntWalk.wrap64_in _ (by omega), Int.toNat_natCast, Int.toNat_natCast, List.nil_append, eraseIdx_eq left i hi]
   exact h1 i hi hge K (by omega)
 | d + 1, j, K + 1, at_, hj, hK, hat => by
  have hj' : j < left.length := by omega
  have e0 : rd left (j : Int) = left[j] := by simp [rd, List.getD, List.getElem?_eq_getElem hj']
  have e1 : wrap64 ((j : Int) + 1) = ((j + 1 : Nat) : Int) := by rw [w1 (by omega) (by omega)]; omega
  rw [quinariaref02_years.l1, if_pos (by omega), if_pos (by omega), e0, e1]
  have ih := fun at2 h => years_in left out y hy0 hy1 hl ho B R h1 h2 d (j + 1) K at2 (by omega) (by omega) h
  by_cases hge : left[j] ≥ y
  ·rw [if_pos hge]
   have hnew := ih (j : Int) (.inr ⟨j, hj', rfl, hge⟩)
   rcases hat with ⟨rfl, hlt⟩ | ⟨i, hi, rfl, hge2⟩
   ·rw [if_pos (by omega)]
    exact hnew
   ·rw [if_neg (by omega), if_pos (by omega), if_pos (by omega)]
    split
    ·exact hnew
    ·exact ih (i : Int) (.inr ⟨i, hi, rfl, hge2⟩)
  ·rw [if_neg hge]
   rcases hat with ⟨rfl, hlt⟩ | ⟨i, hi, rfl, hge2⟩
   ·refine ih (-1) (.inl ⟨rfl, fun i hi hij => ?_⟩)
    by_cases e : i = j
    ·subst e; omega
    ·exact hlt i hi (by omega)
   ·exact ih (i : Int) (.inr ⟨i, hi, rfl, hge2⟩)
theorem years_from (last : List Int) (hl : last.length ≤ 900) : ∀ (k : Nat) (y : Int) (out left : List Int) (K : Nat), y + 1 = k → k ≤ 41 → (∀ t, t ≤ y → Pl.cge left t + out.length = Pl.cge last t) → left.length + out.length = last.length → k * (last.length + 3) < K →
  quinariaref02_years.l0 K out left y = some (grFrom last k y out, ((grFrom last k y out).length == last.length))
 | 0, y, out, left, K + 1, hy, hk, hc, hlen, hK => by
  rw [quinariaref02_years.l0, if_neg (by omega)]
  have : ((left.length : Int) == 0) = (out.length == last.length) := by
   have := beq_cast left.length 0
   rw [show ((0 : Nat) : Int) = 0 from rfl] at this
   rw [this]
   by_cases e : left.length = 0
   ·rw [decide_eq_true e]; simp; omega
   ·rw [decide_eq_false e]; simp; omega
  unfold grFrom
  rw [this]
 | k + 1, y, out, left, K + 1, hy, hk, hc, hlen, hK => by
  rw [quinariaref02_years.l0, if_pos (by omega)]
  have hmul : (k + 1) * (last.length + 3) = k * (last.length + 3) + (last.length + 3) := by rw [Nat.add_mul]; omega
  refine years_in left out y (by omega) (by omega) (by omega) (by omega) (k * (last.length + 3) + 1) _ (fun i hi hge K' hK' => ?_) (fun hlt K' hK' => ?_) left.length 0 K (-1) (by omega) (by omega) (.inl ⟨rfl, fun i _ h => by omega⟩)
  ·have hlc : (left.eraseIdx i).length + 1 = left.length := by rw [List.length_eraseIdx_of_lt hi]; omega
   have := years_from last hl k (y - 1) (out ++ [y]) (left.eraseIdx i) K' (by omega) (by omega) (fun t ht => by
    have h1 := cge_eraseIdx hi t
    rw [if_pos (by omega)] at h1
    have h2 := hc t (by omega)
    simp only [List.length_append, List.length_cons, List.length_nil]
    omega) (by simp; omega) (by omega)
   rw [this]
   have hcy := hc y (Int.le_refl _)
   have h1 := cge_eraseIdx hi y
   rw [if_pos hge] at h1
   have e : grFrom last (k + 1) y out = grFrom last k (y - 1) (out ++ [y]) := by
    rw [grFrom, if_pos (by omega), if_pos (by show out.length < Pl.cge last y; omega)]
   rw [e]
  ·have := years_from last hl k (y - 1) out left K' (by omega) (by omega) (fun t ht => hc t (by omega)) hlen (by omega)
   rw [this]
   have hcy := hc y (Int.le_refl _)
   rw [Pl.cge_hi hlt] at hcy
   have e : grFrom last (k + 1) y out = grFrom last k (y - 1) out := by
    by_cases h : out.length < last.length
    ·rw [grFrom, if_pos h, if_neg (by show ¬ out.length < Pl.cge last y; omega)]
    ·rw [grFrom_full h, grFrom_full h]
   rw [e]
theorem years_f (last : List Int) (hl : last.length ≤ 20) (K : Nat) (hK : 1000 < K) : quinariaref02_years.f K last = some (grN last, ((grN last).length == last.length)) := by
 unfold quinariaref02_years.f
 rw [if_pos (by simp; omega), List.nil_append]
 exact years_from last (by omega) 41 40 [] last K rfl (by omega) (fun t _ => by simp) (by simp) (by have : 41 * (last.length + 3) ≤ 41 * (20 + 3) := Nat.mul_le_mul (by omega) (by omega); omega)
theorem cnt_snoc (l : List Int) (j : Nat) (hj : j < l.length) (y : Int) : Pl.cnt (l.drop j) y = (if l[j] ≤ y then 1 else 0) + Pl.cnt (l.drop (j + 1)) y := by
 rw [List.drop_eq_getElem_cons hj, Pl.cnt_cons]; omega
theorem cnt_yes {l : List Int} {j m T : Nat} (hj : j < l.length) {y : Int} (h : m + Pl.cnt (l.drop j) y = T) (hy : l[j] ≤ y) : (m + 1) + Pl.cnt (l.drop (j + 1)) y = T := by rw [cnt_snoc l j hj, if_pos hy] at h; omega
theorem cnt_no {l : List Int} {j m T : Nat} (hj : j < l.length) {y : Int} (h : m + Pl.cnt (l.drop j) y = T) (hy : ¬ l[j] ≤ y) : m + Pl.cnt (l.drop (j + 1)) y = T := by rw [cnt_snoc l j hj, if_neg hy] at h; omega
theorem w1n (m : Nat) (h : m ≤ 1000000) : wrap64 ((m : Int) + 1) = ((m + 1 : Nat) : Int) := by rw [w1 (by omega) (by omega)]; omega
theorem fills_ar {last all : List Int} (hlen : last.length = all.length) (hl : last.length ≤ 1000) {B d j K m c : Nat} (hj : j + (d + 1) = last.length) (hK : B + (d + 1) < K + 1) (hm0 : m ≤ j) (hc0 : c ≤ j) :
  j < last.length ∧ j < all.length ∧ (0 : Int) ≤ (j : Int) ∧ (j : Int) < (last.length : Int) ∧ (j : Int) < (all.length : Int) ∧ wrap64 ((j : Int) + 1) = ((j + 1 : Nat) : Int) ∧ wrap64 ((m : Int) + 1) = ((m + 1 : Nat) : Int) ∧ wrap64 ((c : Int) + 1) = ((c + 1 : Nat) : Int) ∧ m + 1 ≤ j + 1 ∧ c + 1 ≤ j + 1 ∧ m ≤ j + 1 ∧ c ≤ j + 1 ∧ j + 1 + d = last.length ∧ B + d < K :=
 ⟨by omega, by omega, by omega, by omega, by omega, w1n j (by omega), w1n m (by omega), w1n c (by omega), by omega, by omega, by omega, by omega, by omega, by omega⟩
theorem fills_in (last all : List Int) (hlen : last.length = all.length) (hl : last.length ≤ 1000) (y : Int) (B : Nat) (R : Bool) (h1 : Pl.cnt last y ≤ Pl.cnt all y → ∀ K, B ≤ K → quinariaref02_fills.l0 K last all (wrap64 (y + 1)) = some R) (h2 : ¬ Pl.cnt last y ≤ Pl.cnt all y → R = false) :
  ∀ (d j K : Nat) (m c : Nat), j + d = last.length → B + d < K → m ≤ j → c ≤ j → m + Pl.cnt (last.drop j) y = Pl.cnt last y → c + Pl.cnt (all.drop j) y = Pl.cnt all y → quinariaref02_fills.l1 K last all y (m : Int) (c : Int) (j : Int) = some R := by
 intro d
 induction d with
 | zero =>
  intro j K m c hj hK hm0 hc0 hm hc
  obtain ⟨K, rfl⟩ : ∃ k, K = k + 1 := ⟨K - 1, by omega⟩
  rw [List.drop_eq_nil_of_le (by omega)] at hm hc
  have e : Pl.cnt ([] : List Int) y = 0 := rfl
  rw [e, Nat.add_zero] at hm hc
  subst hm hc
  rw [quinariaref02_fills.l1, if_neg (by omega)]
  by_cases h : Pl.cnt last y ≤ Pl.cnt all y
  ·rw [if_neg (by omega)]
   exact h1 h K (by omega)
  ·rw [if_pos (by omega), h2 h]
 | succ d ih =>
  intro j K m c hj hK hm0 hc0 hm hc
  obtain ⟨K, rfl⟩ : ∃ k, K = k + 1 := ⟨K - 1, (Nat.sub_add_cancel (Nat.lt_of_le_of_lt (Nat.zero_le _) hK)).symm⟩
  obtain ⟨hj1, hj2, i0, i1, i2, wj, wm, wc, m1, c1, m2, c2, a1, a2⟩ := fills_ar hlen hl hj hK hm0 hc0
  have e1 : rd last (j : Int) = last[j] := by simp [rd, List.getD, List.getElem?_eq_getElem hj1]
  have e2 : rd all (j : Int) = all[j] := by simp [rd, List.getD, List.getElem?_eq_getElem hj2]
  have ih := fun m c => ih (j + 1) K m c a1 a2
  clear a1 a2
  rw [quinariaref02_fills.l1, if_pos i1, if_pos i0, e1, e2, wj, wm, wc]
  by_cases a1 : last[j] ≤ y
  ·rw [if_pos a1, if_pos i2]
   by_cases a2 : all[j] ≤ y
   ·rw [if_pos a2]
    exact ih (m + 1) (c + 1) m1 c1 (cnt_yes hj1 hm a1) (cnt_yes hj2 hc a2)
   ·rw [if_neg a2]
    exact ih (m + 1) c m1 c2 (cnt_yes hj1 hm a1) (cnt_no hj2 hc a2)
  ·rw [if_neg a1, if_pos i2]
   by_cases a2 : all[j] ≤ y
   ·rw [if_pos a2]
    exact ih m (c + 1) m2 c1 (cnt_no hj1 hm a1) (cnt_yes hj2 hc a2)
   ·rw [if_neg a2]
    exact ih m c m2 c2 (cnt_no hj1 hm a1) (cnt_no hj2 hc a2)
theorem fills_from (last all : List Int) (hlen : last.length = all.length) (hl : last.length ≤ 1000) (b : Bool) : ∀ (d : Nat) (y : Int) (K : Nat), y + d = 41 → 0 ≤ y → (b = true ↔ ∀ t, y ≤ t → t ≤ 40 → Pl.cnt last t ≤ Pl.cnt all t) → d * (last.length + 3) < K → quinariaref02_fills.l0 K last all y = some b
 | 0, y, K + 1, hy, h0, hb, hK => by
  rw [quinariaref02_fills.l0, if_neg (by omega)]
  rw [hb.mpr (fun t h1 h2 => by omega)]
 | d + 1, y, K + 1, hy, h0, hb, hK => by
  have hmul : (d + 1) * (last.length + 3) = d * (last.length + 3) + (last.length + 3) := by rw [Nat.add_mul]; omega
  rw [quinariaref02_fills.l0, if_pos (by omega)]
  refine fills_in last all hlen hl y (d * (last.length + 3) + 1) b (fun hle K' hK' => ?_) (fun hle => ?_) last.length 0 K 0 0 (by omega) (by omega) (by omega) (by omega) (by simp) (by simp)
  ·rw [w1 (by omega) (by omega)]
   refine fills_from last all hlen hl b d (y + 1) K' (by omega) (by omega) (hb.trans ⟨fun h t h1 h2 => h t (by omega) h2, fun h t h1 h2 => ?_⟩) (by omega)
   by_cases e : t = y
   ·subst e; exact hle
   ·exact h t (by omega) h2
  ·cases b with
   | false => rfl
   | true => exact absurd (hb.mp rfl y (Int.le_refl _) (by omega)) hle
theorem fills_f (last all : List Int) (hlen : last.length = all.length) (hl : last.length ≤ 20) (h0 : ∀ x ∈ last, 0 ≤ x) (h1 : ∀ x ∈ all, 0 ≤ x ∧ x ≤ 40) (K : Nat) (hK : 1000 < K) : ∃ b, quinariaref02_fills.f K last all = some b ∧ (b = true ↔ Pl.Fills last all) := by
 classical
 refine ⟨decide (Pl.Fills last all), ?_, by simp⟩
 unfold quinariaref02_fills.f
 rw [if_pos (by omega)]
 refine fills_from last all hlen (by omega) _ 41 0 K (by omega) (by omega) ?_ (by have : 41 * (last.length + 3) ≤ 41 * (20 + 3) := Nat.mul_le_mul (by omega) (by omega); omega)
 rw [decide_eq_true_iff]
 constructor
 ·intro h t _ _; exact h t
 ·intro h t
  by_cases a : 0 ≤ t
  ·by_cases b : t ≤ 40
   ·exact h t a b
   ·have := Pl.cnt_all (l := all) (t := t) (fun x hx => by have := h1 x hx; omega)
    have := Pl.cnt_le_len last t
    omega
  ·have : Pl.cnt last t = 0 := by
    unfold Pl.cnt; rw [List.countP_eq_zero]
    intro x hx
    have := h0 x hx
    simp; omega
   omega
theorem without_f (l : List Int) (hl : l.length ≤ 1000) (i : Nat) (hi : i < l.length) : quinariaref02_without.f l (i : Int) = some (l.eraseIdx i) := by
 have e1 : wrap64 ((i : Int) + 1) = ((i + 1 : Nat) : Int) := by rw [w1 (by omega) (by omega)]; omega
 unfold quinariaref02_without.f
 rw [if_pos (by omega), if_pos (by omega), if_pos (by simp; omega), Option.bind_some, e1, if_pos (by omega), if_pos (by omega), if_pos (by simp; omega), Int.toNat_natCast, Int.toNat_natCast, List.nil_append, eraseIdx_eq l i hi]
end Go.Proofs.YtdmdahafiiggiaaGreatDoor.K
end
