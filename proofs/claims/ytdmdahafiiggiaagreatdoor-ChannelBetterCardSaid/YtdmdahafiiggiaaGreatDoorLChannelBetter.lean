/- ChannelBetter: the walk of the law, and what it comes to. -/
import Derived.Test.YtdmdahafiiggiaaGreatDoorD5
set_option linter.unusedVariables false
set_option linter.unusedSimpArgs false
section
namespace Go.Proofs.YtdmdahafiiggiaaGreatDoor.K
open Go.RowKit Go.Proofs.YtdmdahafiiggiaaGreatDoorW.PrintWords Go.Proofs.YtdmdahafiiggiaaGreatDoorW.PrintLast Go.Proofs.YtdmdahafiiggiaaGreatDoorW.PrintMore
def quinarialaw02_known.f (_ : Nat) : Option Bool := some true
theorem quinarialaw02_known.calls (k : Nat) (r : Bool) (w : World) (hT : TabW w) (h : quinarialaw02_known.f k  = some r) :
    Calls Tryz.prog 17 #[] w fun e w' => e = .returned (.bool r) ∧ Below w.heap.size w w' := by
  obtain rfl : true = r := Option.some.inj h
  exact known_any w hT
end Go.Proofs.YtdmdahafiiggiaaGreatDoor.K
end
section
namespace Go.Proofs.YtdmdahafiiggiaaGreatDoor.K
open Go.RowKit Go.Proofs.YtdmdahafiiggiaaGreatDoorW.PrintWords Go.Proofs.YtdmdahafiiggiaaGreatDoorW.PrintLast Go.Proofs.YtdmdahafiiggiaaGreatDoorW.PrintMore
attribute [local go_sem] max2_int min2_int max_two min_two max_three min_three max_four min_four
def quinariaref02_Ages.l0 : Nat → List Int → Int → List Int → List (S32) → Option (Bool)
 | 0, _, _, _, _ => none
 | k + 1, x1, x5, x622000, x622001 => if x5 < (x1.length : Int) then (if 0 ≤ x5 then ((quinariaref02_Age.f (rd x1 x5)).bind fun t623 => (if t623 = true then (quinariaref02_Ages.l0 k x1 (wrap64 (x5 + 1)) x622000 x622001) else (some false))) else (none)) else (some ((x1.length : Int) == (x622001.length : Int)))
def quinariaref02_Ages.f (k : Nat) (l0_0 : List Int) (l0_1 : List (S32)) (l1 : List Int) : Option (Bool) := quinariaref02_Ages.l0 k l1 0 l0_0 l0_1
set_option maxHeartbeats 8000000 in
set_option maxRecDepth 100000 in
theorem quinariaref02_Ages.calls (k : Nat) (A0_0 : Option Addr) (c0_0 : Nat) (l0_0 : List Int) (A0_1 : Option Addr) (c0_1 : Nat) (l0_1 : List (S32)) (A1 : Option Addr) (c1 : Nat) (l1 : List Int) (r : Bool) (w : World) (hr0_0 : Kd.C (Kd.int .i64) w A0_0 l0_0.length l0_0) (hc0_0 : l0_0.length ≤ c0_0) (hr0_1 : Kd.C k32 w A0_1 l0_1.length l0_1) (hc0_1 : l0_1.length ≤ c0_1) (hr1 : Kd.C (Kd.int .i64) w A1 l1.length l1) (hc1 : l1.length ≤ c1) (h : quinariaref02_Ages.f k l0_0 l0_1 l1 = some r) :
  Calls Tryz.prog 22 #[.agg #[.slice A0_0 l0_0.length c0_0, .slice A0_1 l0_1.length c0_1], .slice A1 l1.length c1] w fun e w' => e = .returned (.bool r) ∧ Below w.heap.size w w' := by
 have hu25 := Tryz.underlying25
 have HR0_0 := Aside0.mk hr0_0
 have HC0_0 := Aside0.mk hc0_0
 clear hr0_0 hc0_0
 have HR0_1 := Aside0.mk hr0_1
 have HC0_1 := Aside0.mk hc0_1
 clear hr0_1 hc0_1
 have HR1 := Aside0.mk hr1
 have HC1 := Aside0.mk hc1
 clear hr1 hc1
 have HB := Aside0.mk (Below.refl w.heap.size w)
 have H : (quinariaref02_Ages.l0 k l1 0 l0_0 l0_1) = some r := h
 clear h
 have H' := Aside0.mk H
 clear H
 go_enter Tryz.func22, Tryz.ntmps22
 go_wp2_with (first | ((with_reducible refine gate_dst (N := 2) rfl ?_); refine bxe 2 #[.slice A0_0 l0_0.length c0_0, .slice A0_1 l0_1.length c0_1] 25 ?_; intro gb621 hg w3 hbox hb; have n0_ := Aside0.mk (below_step uB hb); have n1_ := Aside0.mk (hbox); have n2_ := gw hg; have n3_ := gw hg; clear HB; have HB := n0_; have BK621 := n1_; have GW621 := n2_; have GE621 := n3_; clear n0_ n1_ n2_ n3_; clear hb hbox hg))
 go_loopg [5] k (fun kq v5 w' => ∃ (x5_1 : Int), v5 = .int .i64 x5_1 ∧ Aside0 (quinariaref02_Ages.l0 kq l1 x5_1 l0_0 l0_1 = some r) ∧ Aside0 (kq ≤ k) ∧ Aside0 (w'.heap[gb621]? = some (.cells #[(.slice A0_0 l0_0.length c0_0), (.slice A0_1 l0_1.length c0_1)] 25 (0, 0))) ∧ Aside0 (Below w.heap.size w w'))
 case atStart => exact ⟨(0), u0, H', ⟨Nat.le_refl _⟩, ⟨uK BK621.out⟩, ⟨uB⟩⟩
 case round =>
  clear H'
  try clear c1; try clear c2; try clear p2
  obtain ⟨x5_1, rfl, HA, HK1, BK621, HB⟩ := hrel
  cases gk with
  | zero => exact absurd HA.out (by simp [quinariaref02_Ages.l0])
  | succ k1 =>
   have H := HA.out
   clear HA
   simp only [quinariaref02_Ages.l0] at H
   by_cases c4 : x5_1 < (l1.length : Int)
   ·rw [if_pos c4] at H
    replace c4 := decide_eq_true c4
    obtain ⟨c5, H⟩ := ifs H
    replace c5 := decide_eq_true c5
    replace H := Option.bind_eq_some_iff.mp H
    obtain ⟨t623, A60, H⟩ := H
    replace H : (if t623 = true then (quinariaref02_Ages.l0 k1 l1 (wrap64 (x5_1 + 1)) l0_0 l0_1) else (some false)) = some r := H
    have A6 := Aside0.mk A60
    clear A60
    by_cases c7 : t623 = true
    ·subst c7
     have H1 : (quinariaref02_Ages.l0 k1 l1 (wrap64 (x5_1 + 1)) l0_0 l0_1) = some r := by rw [if_pos rfl] at H; exact H
     clear H
     have H := H1
     clear H1
     have H' := Aside0.mk H
     clear H
     have p622 : 0 ≤ (x5_1 : Int) := of_decide_eq_true (by first | (with_reducible assumption) | assumption)
     have q622 : x5_1 < (l1.length : Int) := of_decide_eq_true (by first | (with_reducible assumption) | assumption)
     obtain ⟨ad622, e622, hx622_0⟩ := Kd.at_int HR1.out x5_1 p622 q622
     cases e622
     replace hx622_0 := hcell HB.out hx622_0
     replace p622 := eq_true p622
     replace q622 := eq_true q622
     go_wp2_with (first | ((with_reducible refine gate_callee (f := 16) rfl ?_); refine goesL_ (some 16) rfl rfl Tryz.func16 (by kernel_rfl) rfl #[.int .i64 (rd l1 x5_1)] rfl uM ?_; (with_reducible refine (quinariaref02_Age.calls (rd l1 x5_1) true _ A6.out).mono ?_); rintro e w' ⟨rfl, ⟨nd, rfl⟩⟩; refine ⟨_, rfl, ?_⟩))
     go_roundg k1
     case measure => have := HK1.out; omega
     case rel => exact ⟨(wrap64 (x5_1 + 1)), u0, H', ⟨by have := HK1.out; omega⟩, ⟨uK BK621.out⟩, ⟨uB⟩⟩
    ·replace c7 := Bool.eq_false_iff.mpr c7
     subst c7
     have H1 : (some false) = some r := by rw [if_neg (show ¬ (false = true) by decide)] at H; exact H
     clear H
     have H := H1
     clear H1
     obtain rfl := Option.some.inj H
     have p622 : 0 ≤ (x5_1 : Int) := of_decide_eq_true (by first | (with_reducible assumption) | assumption)
     have q622 : x5_1 < (l1.length : Int) := of_decide_eq_true (by first | (with_reducible assumption) | assumption)
     obtain ⟨ad622, e622, hx622_0⟩ := Kd.at_int HR1.out x5_1 p622 q622
     cases e622
     replace hx622_0 := hcell HB.out hx622_0
     replace p622 := eq_true p622
     replace q622 := eq_true q622
     go_wp2_with (first | ((with_reducible refine gate_callee (f := 16) rfl ?_); refine goesL_ (some 16) rfl rfl Tryz.func16 (by kernel_rfl) rfl #[.int .i64 (rd l1 x5_1)] rfl uM ?_; (with_reducible refine (quinariaref02_Age.calls (rd l1 x5_1) false _ A6.out).mono ?_); rintro e w' ⟨rfl, ⟨nd, rfl⟩⟩; refine ⟨_, rfl, ?_⟩))
     go_ret
     exact ⟨uE, uB⟩
   ·rw [if_neg c4] at H
    replace c4 := decide_eq_false c4
    obtain rfl := Option.some.inj H
    obtain ⟨hcz8_0, hcz8_1⟩ := cz2 BK621.out
    obtain ⟨hfz8_0, hfz8_1⟩ := fz2 BK621.out
    go_wp2
    go_ret
    exact ⟨uE, uB⟩
end Go.Proofs.YtdmdahafiiggiaaGreatDoor.K
end
section
namespace Go.Proofs.YtdmdahafiiggiaaGreatDoor.K
open Go.RowKit Go.Proofs.YtdmdahafiiggiaaGreatDoorW.PrintWords Go.Proofs.YtdmdahafiiggiaaGreatDoorW.PrintLast Go.Proofs.YtdmdahafiiggiaaGreatDoorW.PrintMore
attribute [local go_sem] max2_int min2_int max_two min_two max_three min_three max_four min_four
def quinariaref02_Need.f (a0 : Int) : Option (Bool) := (quinariaref02_in.f a0 1 10000000).bind fun t714 => (some t714)
set_option maxHeartbeats 8000000 in
set_option maxRecDepth 100000 in
theorem quinariaref02_Need.calls (a0 : Int) (r : Bool) (w : World) (h : quinariaref02_Need.f a0 = some r) :
  Calls Tryz.prog 29 #[.int .i64 a0] w fun e w' => e = .returned (.bool r) ∧ Drawn0 w w' := by
 have H : ((quinariaref02_in.f a0 1 10000000).bind fun t714 => (some t714)) = some r := h
 clear h
 replace H := Option.bind_eq_some_iff.mp H
 obtain ⟨t714, A20, H⟩ := H
 replace H : (some t714) = some r := H
 have A2 := Aside0.mk A20
 clear A20
 obtain rfl := Option.some.inj H
 go_enter Tryz.func29, Tryz.ntmps29
 go_wp2_with (first | ((with_reducible refine gate_callee (f := 42) rfl ?_); refine goesL_ (some 4) rfl rfl Tryz.func42 (by kernel_rfl) rfl #[.int .i64 a0, .int .i64 1, .int .i64 10000000] rfl uM ?_; (with_reducible refine (quinariaref02_in.calls a0 1 10000000 t714 _ A2.out).mono ?_); rintro e w' ⟨rfl, ⟨nd, rfl⟩⟩; refine ⟨_, rfl, ?_⟩))
 go_ret
 exact ⟨u0, by repeat (first | exact Drawn0.refl _ | apply Drawn0.step)⟩
end Go.Proofs.YtdmdahafiiggiaaGreatDoor.K
end
section
namespace Go.Proofs.YtdmdahafiiggiaaGreatDoor.K
open Go.RowKit Go.Proofs.YtdmdahafiiggiaaGreatDoorW.PrintWords Go.Proofs.YtdmdahafiiggiaaGreatDoorW.PrintLast Go.Proofs.YtdmdahafiiggiaaGreatDoorW.PrintMore
attribute [local go_sem] max2_int min2_int max_two min_two max_three min_three max_four min_four
def quinariaref02_Until.f (a0 : Int) : Option (Bool) := (quinariaref02_in.f a0 0 40).bind fun t816 => (some t816)
set_option maxHeartbeats 8000000 in
set_option maxRecDepth 100000 in
theorem quinariaref02_Until.calls (a0 : Int) (r : Bool) (w : World) (h : quinariaref02_Until.f a0 = some r) :
  Calls Tryz.prog 33 #[.int .i64 a0] w fun e w' => e = .returned (.bool r) ∧ Drawn0 w w' := by
 have H : ((quinariaref02_in.f a0 0 40).bind fun t816 => (some t816)) = some r := h
 clear h
 replace H := Option.bind_eq_some_iff.mp H
 obtain ⟨t816, A20, H⟩ := H
 replace H : (some t816) = some r := H
 have A2 := Aside0.mk A20
 clear A20
 obtain rfl := Option.some.inj H
 go_enter Tryz.func33, Tryz.ntmps33
 go_wp2_with (first | ((with_reducible refine gate_callee (f := 42) rfl ?_); refine goesL_ (some 4) rfl rfl Tryz.func42 (by kernel_rfl) rfl #[.int .i64 a0, .int .i64 0, .int .i64 40] rfl uM ?_; (with_reducible refine (quinariaref02_in.calls a0 0 40 t816 _ A2.out).mono ?_); rintro e w' ⟨rfl, ⟨nd, rfl⟩⟩; refine ⟨_, rfl, ?_⟩))
 go_ret
 exact ⟨u0, by repeat (first | exact Drawn0.refl _ | apply Drawn0.step)⟩
end Go.Proofs.YtdmdahafiiggiaaGreatDoor.K
end
section
namespace Go.Proofs.YtdmdahafiiggiaaGreatDoor.K
open Go.RowKit Go.Proofs.YtdmdahafiiggiaaGreatDoorW.PrintWords Go.Proofs.YtdmdahafiiggiaaGreatDoorW.PrintLast Go.Proofs.YtdmdahafiiggiaaGreatDoorW.PrintMore
attribute [local go_sem] max2_int min2_int max_two min_two max_three min_three max_four min_four
def quinariaref02_Carries.l0 : Nat → Int → Int → Int → List Int → List (S32) → Int → Int → Option (Int × Int)
 | 0, _, _, _, _, _, _, _ => none
 | k + 1, x1, x2, x8, x625000, x625001, x627000, x627001 => if 0 ≤ x1 then (if x1 < (x625001.length : Int) then (if x8 ≤ ((rd_T32 x625001 x1).f3.f1) then ((quinariaref02_Cups.f x625000 x625001 x1 x2 x8).bind fun t629 => (quinariaref02_Carries.l0 k x1 x2 (wrap64 (x8 + 1)) x625000 x625001 (mn x627000 t629) (mx x627001 t629))) else (some (x627000, x627001))) else (none)) else (none)
def quinariaref02_Carries.f (k : Nat) (l0_0 : List Int) (l0_1 : List (S32)) (a1 : Int) (a2 : Int) : Option (Int × Int) := if 0 ≤ a1 then (if a1 < (l0_1.length : Int) then (quinariaref02_Carries.l0 k a1 a2 ((rd_T32 l0_1 a1).f3.f0) l0_0 l0_1 10000001 (-1)) else (none)) else (none)
set_option maxHeartbeats 8000000 in
set_option maxRecDepth 100000 in
theorem quinariaref02_Carries.calls (k : Nat) (A0_0 : Option Addr) (c0_0 : Nat) (l0_0 : List Int) (A0_1 : Option Addr) (c0_1 : Nat) (l0_1 : List (S32)) (a1 : Int) (a2 : Int) (r1 : Int) (r2 : Int) (w : World) (hr0_0 : Kd.C (Kd.int .i64) w A0_0 l0_0.length l0_0) (hc0_0 : l0_0.length ≤ c0_0) (hr0_1 : Kd.C k32 w A0_1 l0_1.length l0_1) (hc0_1 : l0_1.length ≤ c0_1) (h : quinariaref02_Carries.f k l0_0 l0_1 a1 a2 = some (r1, r2)) :
  Calls Tryz.prog 62 #[.agg #[.slice A0_0 l0_0.length c0_0, .slice A0_1 l0_1.length c0_1], .int .i64 a1, .int .i64 a2] w fun e w' => e = .returned (.agg #[.int .i64 r1, .int .i64 r2]) ∧ Below w.heap.size w w' := by
 have hu25 := Tryz.underlying25
 have hu30 := Tryz.underlying30
 have HR0_0 := Aside0.mk hr0_0
 have HC0_0 := Aside0.mk hc0_0
 clear hr0_0 hc0_0
 have HR0_1 := Aside0.mk hr0_1
 have HC0_1 := Aside0.mk hc0_1
 clear hr0_1 hc0_1
 have HB := Aside0.mk (Below.refl w.heap.size w)
 have H : (if 0 ≤ a1 then (if a1 < (l0_1.length : Int) then (quinariaref02_Carries.l0 k a1 a2 ((rd_T32 l0_1 a1).f3.f0) l0_0 l0_1 10000001 (-1)) else (none)) else (none)) = some (r1, r2) := h
 clear h
 obtain ⟨c4, H⟩ := ifs H
 replace c4 := decide_eq_true c4
 obtain ⟨c5, H⟩ := ifs H
 replace c5 := decide_eq_true c5
 have H' := Aside0.mk H
 clear H
 go_enter Tryz.func62, Tryz.ntmps62
 go_wp2_with (first | ((with_reducible refine gate_dst (N := 3) rfl ?_); refine bxe 3 #[.slice A0_0 l0_0.length c0_0, .slice A0_1 l0_1.length c0_1] 25 ?_; intro gb624 hg w6 hbox hb; have n0_ := Aside0.mk (below_step uB hb); have n1_ := Aside0.mk (hbox); have n2_ := gw hg; have n3_ := gw hg; clear HB; have HB := n0_; have BK624 := n1_; have GW624 := n2_; have GE624 := n3_; clear n0_ n1_ n2_ n3_; clear hb hbox hg) | ((with_reducible refine gate_dst (N := 6) rfl ?_); refine bxe 6 #[.int .i64 0, .int .i64 0] 30 ?_; intro gb625 hg w7 hbox hb; have n0_ := Aside0.mk (blk_below (uK BK624.out) hb); have n1_ := Aside0.mk (below_step uB hb); have n2_ := Aside0.mk (hbox); have n3_ := gw hg; have n4_ := gw hg; have n5_ := nb BK624 hg; have n6_ := nc BK624 hg; clear BK624; clear HB; have BK624 := n0_; have HB := n1_; have BK625 := n2_; have GW625 := n3_; have GE625 := n4_; have NB624_625 := n5_; have NB625_624 := n6_; clear n0_ n1_ n2_ n3_ n4_ n5_ n6_; clear hb hbox hg) | ((with_reducible refine gate_dst (N := 7) rfl ?_); refine bxe 7 #[.int .i64 0, .int .i64 0] 30 ?_; intro gb626 hg w8 hbox hb; have n0_ := Aside0.mk (blk_below (uK BK624.out) hb); have n1_ := Aside0.mk (blk_below (uK BK625.out) hb); have n2_ := Aside0.mk (below_step uB hb); have n3_ := Aside0.mk (hbox); have n4_ := gw hg; have n5_ := gw hg; have n6_ := nb BK624 hg; have n7_ := nc BK624 hg; have n8_ := nb BK625 hg; have n9_ := nc BK625 hg; clear BK624; clear BK625; clear HB; have BK624 := n0_; have BK625 := n1_; have HB := n2_; have BK626 := n3_; have GW626 := n4_; have GE626 := n5_; have NB624_626 := n6_; have NB626_624 := n7_; have NB625_626 := n8_; have NB626_625 := n9_; clear n0_ n1_ n2_ n3_ n4_ n5_ n6_ n7_ n8_ n9_; clear hb hbox hg; have hnb9 := NB626_624.out; have hnc9 := NB624_626.out; have hnb10 := NB626_625.out; have hnc10 := NB625_626.out; obtain ⟨hcz11_0, hcz11_1⟩ := cz2 BK626.out; obtain ⟨hfz11_0, hfz11_1⟩ := fz2 BK626.out; have hnb12 := NB624_625.out; have hnc12 := NB625_624.out; obtain ⟨hcz13_0, hcz13_1⟩ := cz2 BK624.out; obtain ⟨hfz13_0, hfz13_1⟩ := fz2 BK624.out; have p627 : 0 ≤ (a1 : Int) := of_decide_eq_true (by first | (with_reducible assumption) | assumption); have q627 : a1 < (l0_1.length : Int) := of_decide_eq_true (by first | (with_reducible assumption) | assumption); obtain ⟨ad627, e627, hx627_0, hx627_1, hx627_2, hx627_3, hx627_4⟩ := at_T32 HR0_1.out a1 p627 q627; cases e627; have hn627_0 : ad627.block ≠ gb626 := Nat.ne_of_lt (Nat.lt_of_lt_of_le (bl1 hx627_0) GW626.out); have hn627_1 : ad627.block ≠ gb626 := Nat.ne_of_lt (Nat.lt_of_lt_of_le (bl1 hx627_0) GW626.out); replace hx627_0 := hcell HB.out hx627_0; replace hx627_1 := hcell HB.out hx627_1; replace hx627_2 := hcell HB.out hx627_2; replace hx627_3 := hcell HB.out hx627_3; replace hx627_4 := hcell HB.out hx627_4; replace hx627_0 := (cell_far (p := ⟨gb626, 0, none⟩) (fx hn627_0) (.int .i64 10000001)).trans hx627_0; replace hx627_1 := (cell_far (p := ⟨gb626, 0, none⟩) (fx hn627_0) (.int .i64 10000001)).trans hx627_1; replace hx627_2 := (cell_far (p := ⟨gb626, 0, none⟩) (fx hn627_0) (.int .i64 10000001)).trans hx627_2; replace hx627_3 := (cell_far (p := ⟨gb626, 0, none⟩) (fx hn627_0) (.int .i64 10000001)).trans hx627_3; replace hx627_4 := (cell_far (p := ⟨gb626, 0, none⟩) (fx hn627_0) (.int .i64 10000001)).trans hx627_4; replace hx627_0 := (cell_far (p := ⟨gb626, 1, none⟩) (fx hn627_1) (.int .i64 (-1))).trans hx627_0; replace hx627_1 := (cell_far (p := ⟨gb626, 1, none⟩) (fx hn627_1) (.int .i64 (-1))).trans hx627_1; replace hx627_2 := (cell_far (p := ⟨gb626, 1, none⟩) (fx hn627_1) (.int .i64 (-1))).trans hx627_2; replace hx627_3 := (cell_far (p := ⟨gb626, 1, none⟩) (fx hn627_1) (.int .i64 (-1))).trans hx627_3; replace hx627_4 := (cell_far (p := ⟨gb626, 1, none⟩) (fx hn627_1) (.int .i64 (-1))).trans hx627_4; clear hn627_0; clear hn627_1; replace p627 := eq_true p627; replace q627 := eq_true q627))
 go_loopg [8] k (fun kq v8 w' => ∃ (x8_1 : Int) (x627000_1 : Int) (x627001_1 : Int), v8 = .int .i64 x8_1 ∧ Aside0 (quinariaref02_Carries.l0 kq a1 a2 x8_1 l0_0 l0_1 x627000_1 x627001_1 = some (r1, r2)) ∧ Aside0 (kq ≤ k) ∧ Aside0 (w'.heap[gb624]? = some (.cells #[(.slice A0_0 l0_0.length c0_0), (.slice (some ad627) l0_1.length c0_1)] 25 (0, 0))) ∧ Aside0 (w'.heap[gb625]? = some (.cells #[.int .i64 0, .int .i64 0] 30 (0, 0))) ∧ Aside0 (w'.heap[gb626]? = some (.cells #[.int .i64 x627000_1, .int .i64 x627001_1] 30 (0, 0))) ∧ Aside0 (Below w.heap.size w w'))
 case atStart => exact ⟨((rd_T32 l0_1 a1).f3.f0), (10000001), ((-1)), u0, H', ⟨Nat.le_refl _⟩, ⟨by refine uK ?_; refine blk_far ?_ NB624_626.out _; refine uK ?_; refine blk_far ?_ NB624_626.out _; refine uK ?_; exact BK624.out⟩, ⟨by refine uK ?_; refine blk_far ?_ NB625_626.out _; refine uK ?_; refine blk_far ?_ NB625_626.out _; refine uK ?_; exact BK625.out⟩, ⟨by refine uK ?_; refine blk_put (cs := #[.int .i64 10000001, .int .i64 0]) ?_ 1 _ rfl; refine uK ?_; refine blk_put (cs := #[.int .i64 0, .int .i64 0]) ?_ 0 _ rfl; refine uK ?_; exact BK626.out⟩, ⟨uB⟩⟩
 case round =>
  clear H'
  obtain ⟨x8_1, x627000_1, x627001_1, rfl, HA, HK1, BK624, BK625, BK626, HB⟩ := hrel
  cases gk with
  | zero => exact absurd HA.out (by simp [quinariaref02_Carries.l0])
  | succ k1 =>
   have H := HA.out
   clear HA
   simp only [quinariaref02_Carries.l0] at H
   obtain ⟨c14, H⟩ := ifs H
   replace c14 := decide_eq_true c14
   obtain ⟨c15, H⟩ := ifs H
   replace c15 := decide_eq_true c15
   by_cases c16 : x8_1 ≤ ((rd_T32 l0_1 a1).f3.f1)
   ·rw [if_pos c16] at H
    replace c16 := decide_eq_true c16
    replace H := Option.bind_eq_some_iff.mp H
    obtain ⟨t629, A170, H⟩ := H
    replace H : (quinariaref02_Carries.l0 k1 a1 a2 (wrap64 (x8_1 + 1)) l0_0 l0_1 (mn x627000_1 t629) (mx x627001_1 t629)) = some (r1, r2) := H
    have A17 := Aside0.mk A170
    clear A170
    obtain ⟨ji18, hji18⟩ : ∃ j_ : Int, (mn x627000_1 t629) = j_ := ⟨_, rfl⟩
    replace H : (quinariaref02_Carries.l0 k1 a1 a2 (wrap64 (x8_1 + 1)) l0_0 l0_1 ji18 (mx x627001_1 t629)) = some (r1, r2) := by first | (rw [hji18] at H; exact H) | (simp only [hji18] at H ⊢; exact H)
    (try rw [hji18] at A17)
    have hji18_ : (if t629 < x627000_1 then t629 else x627000_1) = ji18 := hji18
    obtain ⟨ji19, hji19⟩ : ∃ j_ : Int, (mx x627001_1 t629) = j_ := ⟨_, rfl⟩
    replace H : (quinariaref02_Carries.l0 k1 a1 a2 (wrap64 (x8_1 + 1)) l0_0 l0_1 ji18 ji19) = some (r1, r2) := by first | (rw [hji19] at H; exact H) | (simp only [hji19] at H ⊢; exact H)
    (try rw [hji19] at A17)
    have hji19_ : (if x627001_1 < t629 then t629 else x627001_1) = ji19 := hji19
    have H' := Aside0.mk H
    clear H
    have hnb20 := NB624_625.out
    have hnc20 := NB625_624.out
    have hnb21 := NB624_626.out
    have hnc21 := NB626_624.out
    obtain ⟨hcz22_0, hcz22_1⟩ := cz2 BK624.out
    obtain ⟨hfz22_0, hfz22_1⟩ := fz2 BK624.out
    have p628 : 0 ≤ (a1 : Int) := of_decide_eq_true (by first | (with_reducible assumption) | assumption)
    have q628 : a1 < (l0_1.length : Int) := of_decide_eq_true (by first | (with_reducible assumption) | assumption)
    obtain ⟨ad628, e628, hx628_0, hx628_1, hx628_2, hx628_3, hx628_4⟩ := at_T32 HR0_1.out a1 p628 q628
    obtain rfl : ad627 = ad628 := (by injection e628)
    replace hx628_0 := hcell HB.out hx628_0
    replace hx628_1 := hcell HB.out hx628_1
    replace hx628_2 := hcell HB.out hx628_2
    replace hx628_3 := hcell HB.out hx628_3
    replace hx628_4 := hcell HB.out hx628_4
    replace p628 := eq_true p628
    replace q628 := eq_true q628
    go_wp2_with (first | ((with_reducible refine gate_callee (f := 19) rfl ?_); refine goesL_ (some 33) rfl rfl Tryz.func19 (by kernel_rfl) rfl #[.agg #[.slice A0_0 l0_0.length c0_0, .slice (some ad627) l0_1.length c0_1], .int .i64 a1, .int .i64 a2, .int .i64 x8_1] rfl uM ?_; (with_reducible refine (quinariaref02_Cups.calls _ _ l0_0 _ _ l0_1 a1 a2 x8_1 t629 _ ?side1 ?side2 ?side3 ?side4 A17.out).mono ?_); (case side1 => exact uC (Kd.C_below HR0_0.out HB.out)); (case side2 => exact HC0_0.out); (case side3 => exact uC (Kd.C_below HR0_1.out HB.out)); (case side4 => exact HC0_1.out); rintro e w23 ⟨rfl, hb⟩; refine ⟨_, rfl, ?_⟩; replace BK624 := Aside0.mk (blk_below (uK BK624.out) hb); replace BK625 := Aside0.mk (blk_below (uK BK625.out) hb); replace BK626 := Aside0.mk (blk_below (uK BK626.out) hb); replace HB := Aside0.mk (below_step uB hb); (try clear hb); (try clear hb2); (try clear hk); (try clear hi); have hnb24 := NB626_625.out; have hnc24 := NB625_626.out; obtain ⟨hcz25_0, hcz25_1⟩ := cz2 BK626.out; obtain ⟨hfz25_0, hfz25_1⟩ := fz2 BK626.out))
    go_roundg k1
    case measure => have := HK1.out; omega
    case rel => exact ⟨(wrap64 (x8_1 + 1)), (ji18), (ji19), u0, H', ⟨by have := HK1.out; omega⟩, ⟨by refine uK ?_; refine blk_far ?_ NB624_626.out _; refine uK ?_; refine blk_far ?_ NB624_626.out _; refine uK ?_; exact BK624.out⟩, ⟨by refine uK ?_; refine blk_far ?_ NB625_626.out _; refine uK ?_; refine blk_far ?_ NB625_626.out _; refine uK ?_; exact BK625.out⟩, ⟨by refine uK ?_; refine blk_put (cs := #[.int .i64 ji18, .int .i64 x627001_1]) ?_ 1 _ rfl; refine uK ?_; refine blk_put (cs := #[.int .i64 x627000_1, .int .i64 x627001_1]) ?_ 0 _ rfl; refine uK ?_; exact BK626.out⟩, ⟨uB⟩⟩
   ·rw [if_neg c16] at H
    replace c16 := decide_eq_false c16
    simp only [Option.some.injEq, Prod.mk.injEq] at H
    obtain ⟨rfl, rfl⟩ := H
    have hnb26 := NB624_625.out
    have hnc26 := NB625_624.out
    have hnb27 := NB624_626.out
    have hnc27 := NB626_624.out
    obtain ⟨hcz28_0, hcz28_1⟩ := cz2 BK624.out
    obtain ⟨hfz28_0, hfz28_1⟩ := fz2 BK624.out
    have p628 : 0 ≤ (a1 : Int) := of_decide_eq_true (by first | (with_reducible assumption) | assumption)
    have q628 : a1 < (l0_1.length : Int) := of_decide_eq_true (by first | (with_reducible assumption) | assumption)
    obtain ⟨ad628, e628, hx628_0, hx628_1, hx628_2, hx628_3, hx628_4⟩ := at_T32 HR0_1.out a1 p628 q628
    obtain rfl : ad627 = ad628 := (by injection e628)
    replace hx628_0 := hcell HB.out hx628_0
    replace hx628_1 := hcell HB.out hx628_1
    replace hx628_2 := hcell HB.out hx628_2
    replace hx628_3 := hcell HB.out hx628_3
    replace hx628_4 := hcell HB.out hx628_4
    replace p628 := eq_true p628
    replace q628 := eq_true q628
    have hnb29 := NB626_625.out
    have hnc29 := NB625_626.out
    obtain ⟨hcz30_0, hcz30_1⟩ := cz2 BK626.out
    obtain ⟨hfz30_0, hfz30_1⟩ := fz2 BK626.out
    obtain ⟨hcz31_0, hcz31_1⟩ := cz2 BK625.out
    obtain ⟨hfz31_0, hfz31_1⟩ := fz2 BK625.out
    go_wp2
    refine bodyPost_ret (results_cell_row rfl _ _ gb625 30 #[.int .i64 x627000_1, .int .i64 x627001_1] (0, 0) _ rfl (by refine uK ?_; refine blk_put (cs := #[.int .i64 x627000_1, .int .i64 0]) ?_ 1 _ rfl; refine uK ?_; refine blk_put (cs := #[.int .i64 0, .int .i64 0]) ?_ 0 _ rfl; refine uK ?_; exact BK625.out) Tryz.underlying30 rfl (by kernel_rfl)) rfl ?_
    exact ⟨uE, uB⟩
end Go.Proofs.YtdmdahafiiggiaaGreatDoor.K
end
section
namespace Go.Proofs.YtdmdahafiiggiaaGreatDoor.K
open Go.RowKit Go.Proofs.YtdmdahafiiggiaaGreatDoorW.PrintWords Go.Proofs.YtdmdahafiiggiaaGreatDoorW.PrintLast Go.Proofs.YtdmdahafiiggiaaGreatDoorW.PrintMore
attribute [local go_sem] max2_int min2_int max_two min_two max_three min_three max_four min_four
def quinariaref02_Latest.l0 : Nat → Int → Int → Int → List Int → List (S32) → Option (Int)
 | 0, _, _, _, _, _ => none
 | k + 1, x1, x2, x7, x716000, x716001 => if x7 ≥ 0 then ((quinariaref02_Carries.f k x716000 x716001 x1 x7).bind fun bt716 => (if bt716.1 ≥ x2 then (some x7) else (quinariaref02_Latest.l0 k x1 x2 (wrap64 (x7 - 1)) x716000 x716001))) else (some (-1))
def quinariaref02_Latest.f (k : Nat) (l0_0 : List Int) (l0_1 : List (S32)) (a1 : Int) (a2 : Int) : Option (Int) := quinariaref02_Latest.l0 k a1 a2 200 l0_0 l0_1
set_option maxHeartbeats 8000000 in
set_option maxRecDepth 100000 in
theorem quinariaref02_Latest.calls (k : Nat) (A0_0 : Option Addr) (c0_0 : Nat) (l0_0 : List Int) (A0_1 : Option Addr) (c0_1 : Nat) (l0_1 : List (S32)) (a1 : Int) (a2 : Int) (r : Int) (w : World) (hr0_0 : Kd.C (Kd.int .i64) w A0_0 l0_0.length l0_0) (hc0_0 : l0_0.length ≤ c0_0) (hr0_1 : Kd.C k32 w A0_1 l0_1.length l0_1) (hc0_1 : l0_1.length ≤ c0_1) (h : quinariaref02_Latest.f k l0_0 l0_1 a1 a2 = some r) :
  Calls Tryz.prog 30 #[.agg #[.slice A0_0 l0_0.length c0_0, .slice A0_1 l0_1.length c0_1], .int .i64 a1, .int .i64 a2] w fun e w' => e = .returned (.int .i64 r) ∧ Below w.heap.size w w' := by
 have hu25 := Tryz.underlying25
 have hfl30_0 := fld30_0
 have HR0_0 := Aside0.mk hr0_0
 have HC0_0 := Aside0.mk hc0_0
 clear hr0_0 hc0_0
 have HR0_1 := Aside0.mk hr0_1
 have HC0_1 := Aside0.mk hc0_1
 clear hr0_1 hc0_1
 have HB := Aside0.mk (Below.refl w.heap.size w)
 have H : (quinariaref02_Latest.l0 k a1 a2 200 l0_0 l0_1) = some r := h
 clear h
 have H' := Aside0.mk H
 clear H
 go_enter Tryz.func30, Tryz.ntmps30
 go_wp2_with (first | ((with_reducible refine gate_dst (N := 3) rfl ?_); refine bxe 3 #[.slice A0_0 l0_0.length c0_0, .slice A0_1 l0_1.length c0_1] 25 ?_; intro gb715 hg w4 hbox hb; have n0_ := Aside0.mk (below_step uB hb); have n1_ := Aside0.mk (hbox); have n2_ := gw hg; have n3_ := gw hg; clear HB; have HB := n0_; have BK715 := n1_; have GW715 := n2_; have GE715 := n3_; clear n0_ n1_ n2_ n3_; clear hb hbox hg))
 go_loopg [7] k (fun kq v7 w' => ∃ (x7_1 : Int), v7 = .int .i64 x7_1 ∧ Aside0 (quinariaref02_Latest.l0 kq a1 a2 x7_1 l0_0 l0_1 = some r) ∧ Aside0 (kq ≤ k) ∧ Aside0 (w'.heap[gb715]? = some (.cells #[(.slice A0_0 l0_0.length c0_0), (.slice A0_1 l0_1.length c0_1)] 25 (0, 0))) ∧ Aside0 (Below w.heap.size w w'))
 case atStart => exact ⟨(200), u0, H', ⟨Nat.le_refl _⟩, ⟨uK BK715.out⟩, ⟨uB⟩⟩
 case round =>
  clear H'
  obtain ⟨x7_1, rfl, HA, HK1, BK715, HB⟩ := hrel
  cases gk with
  | zero => exact absurd HA.out (by simp [quinariaref02_Latest.l0])
  | succ k1 =>
   have H := HA.out
   clear HA
   simp only [quinariaref02_Latest.l0] at H
   by_cases c5 : x7_1 ≥ 0
   ·rw [if_pos c5] at H
    replace c5 := decide_eq_true c5
    replace H := Option.bind_eq_some_iff.mp H
    obtain ⟨⟨t716, t717⟩, A60, H⟩ := H
    replace H : (if t716 ≥ a2 then (some x7_1) else (quinariaref02_Latest.l0 k1 a1 a2 (wrap64 (x7_1 - 1)) l0_0 l0_1)) = some r := H
    have A6 := Aside0.mk A60
    clear A60
    by_cases c7 : t716 ≥ a2
    ·rw [if_pos c7] at H
     replace c7 := decide_eq_true c7
     obtain rfl := Option.some.inj H
     obtain ⟨hcz8_0, hcz8_1⟩ := cz2 BK715.out
     obtain ⟨hfz8_0, hfz8_1⟩ := fz2 BK715.out
     go_wp2_with (first | ((with_reducible refine gate_callee (f := 62) rfl ?_); refine goesL_ (some 15) rfl rfl Tryz.func62 (by kernel_rfl) rfl #[.agg #[.slice A0_0 l0_0.length c0_0, .slice A0_1 l0_1.length c0_1], .int .i64 a1, .int .i64 x7_1] rfl uM ?_; (with_reducible refine (quinariaref02_Carries.calls k1 _ _ l0_0 _ _ l0_1 a1 x7_1 t716 t717 _ ?side1 ?side2 ?side3 ?side4 A6.out).mono ?_); (case side1 => exact uC (Kd.C_below HR0_0.out HB.out)); (case side2 => exact HC0_0.out); (case side3 => exact uC (Kd.C_below HR0_1.out HB.out)); (case side4 => exact HC0_1.out); rintro e w9 ⟨rfl, hb⟩; refine ⟨_, rfl, ?_⟩; replace BK715 := Aside0.mk (blk_below (uK BK715.out) hb); replace HB := Aside0.mk (below_step uB hb); (try clear hb); (try clear hb2); (try clear hk); (try clear hi)))
     go_ret
     exact ⟨uE, uB⟩
    ·rw [if_neg c7] at H
     replace c7 := decide_eq_false c7
     have H' := Aside0.mk H
     clear H
     obtain ⟨hcz10_0, hcz10_1⟩ := cz2 BK715.out
     obtain ⟨hfz10_0, hfz10_1⟩ := fz2 BK715.out
     go_wp2_with (first | ((with_reducible refine gate_callee (f := 62) rfl ?_); refine goesL_ (some 15) rfl rfl Tryz.func62 (by kernel_rfl) rfl #[.agg #[.slice A0_0 l0_0.length c0_0, .slice A0_1 l0_1.length c0_1], .int .i64 a1, .int .i64 x7_1] rfl uM ?_; (with_reducible refine (quinariaref02_Carries.calls k1 _ _ l0_0 _ _ l0_1 a1 x7_1 t716 t717 _ ?side1 ?side2 ?side3 ?side4 A6.out).mono ?_); (case side1 => exact uC (Kd.C_below HR0_0.out HB.out)); (case side2 => exact HC0_0.out); (case side3 => exact uC (Kd.C_below HR0_1.out HB.out)); (case side4 => exact HC0_1.out); rintro e w11 ⟨rfl, hb⟩; refine ⟨_, rfl, ?_⟩; replace BK715 := Aside0.mk (blk_below (uK BK715.out) hb); replace HB := Aside0.mk (below_step uB hb); (try clear hb); (try clear hb2); (try clear hk); (try clear hi)))
     go_roundg k1
     case measure => have := HK1.out; omega
     case rel => exact ⟨(wrap64 (x7_1 - 1)), u0, H', ⟨by have := HK1.out; omega⟩, ⟨uK BK715.out⟩, ⟨uB⟩⟩
   ·rw [if_neg c5] at H
    replace c5 := decide_eq_false c5
    obtain rfl := Option.some.inj H
    go_wp2
    go_ret
    exact ⟨uE, uB⟩
end Go.Proofs.YtdmdahafiiggiaaGreatDoor.K
end
section
namespace Go.Proofs.YtdmdahafiiggiaaGreatDoor.K
open Go.RowKit Go.Proofs.YtdmdahafiiggiaaGreatDoorW.PrintWords Go.Proofs.YtdmdahafiiggiaaGreatDoorW.PrintLast Go.Proofs.YtdmdahafiiggiaaGreatDoorW.PrintMore
attribute [local go_sem] max2_int min2_int max_two min_two max_three min_three max_four min_four
def quinariaref02_Last.f (k : Nat) (l0_0 : List Int) (l0_1 : List (S32)) (a1 : Int) (a2 : Int) (a3 : Int) (a4 : Int) : Option (Int) := (quinariaref02_Latest.f k l0_0 l0_1 a1 a3).bind fun t818 => (if t818 = 200 then (some 1000) else (if (wrap64 (t818 - a2)) ≥ a4 then (some 1000) else (some (wrap64 (t818 - a2)))))
set_option maxHeartbeats 8000000 in
set_option maxRecDepth 100000 in
theorem quinariaref02_Last.calls (k : Nat) (A0_0 : Option Addr) (c0_0 : Nat) (l0_0 : List Int) (A0_1 : Option Addr) (c0_1 : Nat) (l0_1 : List (S32)) (a1 : Int) (a2 : Int) (a3 : Int) (a4 : Int) (r : Int) (w : World) (hr0_0 : Kd.C (Kd.int .i64) w A0_0 l0_0.length l0_0) (hc0_0 : l0_0.length ≤ c0_0) (hr0_1 : Kd.C k32 w A0_1 l0_1.length l0_1) (hc0_1 : l0_1.length ≤ c0_1) (h : quinariaref02_Last.f k l0_0 l0_1 a1 a2 a3 a4 = some r) :
  Calls Tryz.prog 75 #[.agg #[.slice A0_0 l0_0.length c0_0, .slice A0_1 l0_1.length c0_1], .int .i64 a1, .int .i64 a2, .int .i64 a3, .int .i64 a4] w fun e w' => e = .returned (.int .i64 r) ∧ Below w.heap.size w w' := by
 have hu25 := Tryz.underlying25
 have HR0_0 := Aside0.mk hr0_0
 have HC0_0 := Aside0.mk hc0_0
 clear hr0_0 hc0_0
 have HR0_1 := Aside0.mk hr0_1
 have HC0_1 := Aside0.mk hc0_1
 clear hr0_1 hc0_1
 have HB := Aside0.mk (Below.refl w.heap.size w)
 have H : ((quinariaref02_Latest.f k l0_0 l0_1 a1 a3).bind fun t818 => (if t818 = 200 then (some 1000) else (if (wrap64 (t818 - a2)) ≥ a4 then (some 1000) else (some (wrap64 (t818 - a2)))))) = some r := h
 clear h
 replace H := Option.bind_eq_some_iff.mp H
 obtain ⟨t818, A60, H⟩ := H
 replace H : (if t818 = 200 then (some 1000) else (if (wrap64 (t818 - a2)) ≥ a4 then (some 1000) else (some (wrap64 (t818 - a2))))) = some r := H
 have A6 := Aside0.mk A60
 clear A60
 by_cases c7 : t818 = 200
 ·rw [if_pos c7] at H
  have c7b0 : (t818 == 200) = true := beq_iff_eq.mpr c7
  have c7b1 : (t818 != 200) = false := bne_eq_false_iff_eq.mpr c7
  clear c7
  obtain rfl := Option.some.inj H
  go_enter Tryz.func75, Tryz.ntmps75
  go_wp2_with (first | ((with_reducible refine gate_dst (N := 5) rfl ?_); refine bxe 5 #[.slice A0_0 l0_0.length c0_0, .slice A0_1 l0_1.length c0_1] 25 ?_; intro gb817 hg w8 hbox hb; have n0_ := Aside0.mk (below_step uB hb); have n1_ := Aside0.mk (hbox); have n2_ := gw hg; have n3_ := gw hg; clear HB; have HB := n0_; have BK817 := n1_; have GW817 := n2_; have GE817 := n3_; clear n0_ n1_ n2_ n3_; clear hb hbox hg; obtain ⟨hcz9_0, hcz9_1⟩ := cz2 BK817.out; obtain ⟨hfz9_0, hfz9_1⟩ := fz2 BK817.out) | ((with_reducible refine gate_callee (f := 30) rfl ?_); refine goesL_ (some 15) rfl rfl Tryz.func30 (by kernel_rfl) rfl #[.agg #[.slice A0_0 l0_0.length c0_0, .slice A0_1 l0_1.length c0_1], .int .i64 a1, .int .i64 a3] rfl uM ?_; (with_reducible refine (quinariaref02_Latest.calls k _ _ l0_0 _ _ l0_1 a1 a3 t818 _ ?side1 ?side2 ?side3 ?side4 A6.out).mono ?_); (case side1 => exact uC (Kd.C_below HR0_0.out HB.out)); (case side2 => exact HC0_0.out); (case side3 => exact uC (Kd.C_below HR0_1.out HB.out)); (case side4 => exact HC0_1.out); rintro e w10 ⟨rfl, hb⟩; refine ⟨_, rfl, ?_⟩; replace BK817 := Aside0.mk (blk_below (uK BK817.out) hb); replace HB := Aside0.mk (below_step uB hb); (try clear hb); (try clear hb2); (try clear hk); (try clear hi)))
  go_ret
  exact ⟨uE, uB⟩
 ·rw [if_neg c7] at H
  have c7b0 : (t818 == 200) = false := beq_eq_false_iff_ne.mpr c7
  have c7b1 : (t818 != 200) = true := bne_iff_ne.mpr c7
  by_cases c11 : (wrap64 (t818 - a2)) ≥ a4
  ·rw [if_pos c11] at H
   replace c11 := decide_eq_true c11
   obtain rfl := Option.some.inj H
   go_enter Tryz.func75, Tryz.ntmps75
   go_wp2_with (first | ((with_reducible refine gate_dst (N := 5) rfl ?_); refine bxe 5 #[.slice A0_0 l0_0.length c0_0, .slice A0_1 l0_1.length c0_1] 25 ?_; intro gb817 hg w12 hbox hb; have n0_ := Aside0.mk (below_step uB hb); have n1_ := Aside0.mk (hbox); have n2_ := gw hg; have n3_ := gw hg; clear HB; have HB := n0_; have BK817 := n1_; have GW817 := n2_; have GE817 := n3_; clear n0_ n1_ n2_ n3_; clear hb hbox hg; obtain ⟨hcz13_0, hcz13_1⟩ := cz2 BK817.out; obtain ⟨hfz13_0, hfz13_1⟩ := fz2 BK817.out) | ((with_reducible refine gate_callee (f := 30) rfl ?_); refine goesL_ (some 15) rfl rfl Tryz.func30 (by kernel_rfl) rfl #[.agg #[.slice A0_0 l0_0.length c0_0, .slice A0_1 l0_1.length c0_1], .int .i64 a1, .int .i64 a3] rfl uM ?_; (with_reducible refine (quinariaref02_Latest.calls k _ _ l0_0 _ _ l0_1 a1 a3 t818 _ ?side1 ?side2 ?side3 ?side4 A6.out).mono ?_); (case side1 => exact uC (Kd.C_below HR0_0.out HB.out)); (case side2 => exact HC0_0.out); (case side3 => exact uC (Kd.C_below HR0_1.out HB.out)); (case side4 => exact HC0_1.out); rintro e w14 ⟨rfl, hb⟩; refine ⟨_, rfl, ?_⟩; replace BK817 := Aside0.mk (blk_below (uK BK817.out) hb); replace HB := Aside0.mk (below_step uB hb); (try clear hb); (try clear hb2); (try clear hk); (try clear hi)))
   go_ret
   exact ⟨uE, uB⟩
  ·rw [if_neg c11] at H
   replace c11 := decide_eq_false c11
   obtain rfl := Option.some.inj H
   go_enter Tryz.func75, Tryz.ntmps75
   go_wp2_with (first | ((with_reducible refine gate_dst (N := 5) rfl ?_); refine bxe 5 #[.slice A0_0 l0_0.length c0_0, .slice A0_1 l0_1.length c0_1] 25 ?_; intro gb817 hg w15 hbox hb; have n0_ := Aside0.mk (below_step uB hb); have n1_ := Aside0.mk (hbox); have n2_ := gw hg; have n3_ := gw hg; clear HB; have HB := n0_; have BK817 := n1_; have GW817 := n2_; have GE817 := n3_; clear n0_ n1_ n2_ n3_; clear hb hbox hg; obtain ⟨hcz16_0, hcz16_1⟩ := cz2 BK817.out; obtain ⟨hfz16_0, hfz16_1⟩ := fz2 BK817.out) | ((with_reducible refine gate_callee (f := 30) rfl ?_); refine goesL_ (some 15) rfl rfl Tryz.func30 (by kernel_rfl) rfl #[.agg #[.slice A0_0 l0_0.length c0_0, .slice A0_1 l0_1.length c0_1], .int .i64 a1, .int .i64 a3] rfl uM ?_; (with_reducible refine (quinariaref02_Latest.calls k _ _ l0_0 _ _ l0_1 a1 a3 t818 _ ?side1 ?side2 ?side3 ?side4 A6.out).mono ?_); (case side1 => exact uC (Kd.C_below HR0_0.out HB.out)); (case side2 => exact HC0_0.out); (case side3 => exact uC (Kd.C_below HR0_1.out HB.out)); (case side4 => exact HC0_1.out); rintro e w17 ⟨rfl, hb⟩; refine ⟨_, rfl, ?_⟩; replace BK817 := Aside0.mk (blk_below (uK BK817.out) hb); replace HB := Aside0.mk (below_step uB hb); (try clear hb); (try clear hb2); (try clear hk); (try clear hi)))
   go_ret
   exact ⟨uE, uB⟩
end Go.Proofs.YtdmdahafiiggiaaGreatDoor.K
end
section
namespace Go.Proofs.YtdmdahafiiggiaaGreatDoor.K
open Go.RowKit Go.Proofs.YtdmdahafiiggiaaGreatDoorW.PrintWords Go.Proofs.YtdmdahafiiggiaaGreatDoorW.PrintLast Go.Proofs.YtdmdahafiiggiaaGreatDoorW.PrintMore
attribute [local go_sem] max2_int min2_int max_two min_two max_three min_three max_four min_four
mutual
def quinariaref02_Planned.l0 : Nat → List Int → Int → Int → List Int → Int → List Int → List (S32) → Option (Bool)
 | 0, _, _, _, _, _, _, _ => none
 | k + 1, x1, x2, x3, x4, x11, x911000, x911001 => if x11 < (x4.length : Int) then (if 0 ≤ x11 then (if x11 < (x1.length : Int) then ((quinariaref02_Last.f k x911000 x911001 x11 (rd x1 x11) x2 x3).bind fun t912 => ((quinariaref02_Latest.f k x911000 x911001 x11 x2).bind fun t913 => (if t913 < 0 then (quinariaref02_Planned.j1 k x1 x2 x3 x4 x11 true x911000 x911001) else (if t912 = 1000 then (if (rd x4 x11) = (-1) then (quinariaref02_Planned.j1 k x1 x2 x3 x4 x11 false x911000 x911001) else (quinariaref02_Planned.j1 k x1 x2 x3 x4 x11 true x911000 x911001)) else ((quinariaref02_in.f (rd x4 x11) 0 t912).bind fun t916 => (quinariaref02_Planned.j1 k x1 x2 x3 x4 x11 (!t916) x911000 x911001)))))) else (none)) else (none)) else (some true)
def quinariaref02_Planned.j1 : Nat → List Int → Int → Int → List Int → Int → Bool → List Int → List (S32) → Option (Bool)
 | 0, _, _, _, _, _, _, _, _ => none
 | k + 1, x1, x2, x3, x4, x11, x63, x911000, x911001 => if x63 = true then (some false) else (quinariaref02_Planned.l1 k x1 x2 x3 x4 x11 0 x911000 x911001)
def quinariaref02_Planned.l1 : Nat → List Int → Int → Int → List Int → Int → Int → List Int → List (S32) → Option (Bool)
 | 0, _, _, _, _, _, _, _, _ => none
 | k + 1, x1, x2, x3, x4, x11, x13, x911000, x911001 => if x13 < x11 then (if 0 ≤ x11 then (if x11 < (x4.length : Int) then (if (rd x4 x11) ≥ 0 then (if 0 ≤ x13 then (if x13 < (x4.length : Int) then (if (rd x4 x13) = (rd x4 x11) then (some false) else (quinariaref02_Planned.l1 k x1 x2 x3 x4 x11 (wrap64 (x13 + 1)) x911000 x911001)) else (none)) else (none)) else (quinariaref02_Planned.l1 k x1 x2 x3 x4 x11 (wrap64 (x13 + 1)) x911000 x911001)) else (none)) else (none)) else (quinariaref02_Planned.l0 k x1 x2 x3 x4 (wrap64 (x11 + 1)) x911000 x911001)
end
def quinariaref02_Planned.f (k : Nat) (l0_0 : List Int) (l0_1 : List (S32)) (l1 : List Int) (a2 : Int) (a3 : Int) (l4 : List Int) : Option (Bool) := if (l4.length : Int) = (l0_1.length : Int) then (quinariaref02_Planned.l0 k l1 a2 a3 l4 0 l0_0 l0_1) else (some false)
def quinariaref02_Planned.T6 : Bool × List (List Nat × List Nat) := (true, [([], []), ([], []), ([], []), ([], []), ([2, 3], [2, 3]), ([4], [4]), ([], []), ([], []), ([0, 1, 5, 6, 7], [0, 1, 5, 6, 7]), ([8, 8, 0, 1, 2, 3, 4, 5, 6, 7, 8], [8])])
def quinariaref02_Planned.B6 : List Nat := [0, 0, 0, 0, 12, 28, 0, 0, 255, 511]
theorem quinariaref02_Planned.tab6 : rtab .any (opsOf Tryz.f35 6) = quinariaref02_Planned.T6 := by kernel_rfl
theorem quinariaref02_Planned.bits6 : waitsOk quinariaref02_Planned.T6.2 quinariaref02_Planned.B6 = true := by kernel_rfl
def quinariaref02_Planned.T12 : Bool × List (List Nat × List Nat) := (true, [([], []), ([], []), ([0, 1], [0, 1]), ([2], [2]), ([3], [3]), ([4], [4]), ([5], [5]), ([5], [5]), ([6, 7, 5], [5, 6, 7]), ([8, 5], [5, 8]), ([5], [5]), ([5], [5]), ([10, 11, 5], [5, 10, 11]), ([12, 5], [5, 12]), ([9, 13, 5], [5, 9, 13]), ([5, 14], [5, 14])])
def quinariaref02_Planned.B12 : List Nat := [0, 0, 3, 7, 15, 31, 63, 63, 255, 511, 63, 63, 3135, 7231, 16383, 32767]
theorem quinariaref02_Planned.tab12 : rtab .any (opsOf Tryz.f35 12) = quinariaref02_Planned.T12 := by kernel_rfl
theorem quinariaref02_Planned.bits12 : waitsOk quinariaref02_Planned.T12.2 quinariaref02_Planned.B12 = true := by kernel_rfl
set_option maxHeartbeats 8000000 in
set_option maxRecDepth 100000 in
theorem quinariaref02_Planned.calls (k : Nat) (A0_0 : Option Addr) (c0_0 : Nat) (l0_0 : List Int) (A0_1 : Option Addr) (c0_1 : Nat) (l0_1 : List (S32)) (A1 : Option Addr) (c1 : Nat) (l1 : List Int) (a2 : Int) (a3 : Int) (A4 : Option Addr) (c4 : Nat) (l4 : List Int) (r : Bool) (w : World) (hr0_0 : Kd.C (Kd.int .i64) w A0_0 l0_0.length l0_0) (hc0_0 : l0_0.length ≤ c0_0) (hr0_1 : Kd.C k32 w A0_1 l0_1.length l0_1) (hc0_1 : l0_1.length ≤ c0_1) (hr1 : Kd.C (Kd.int .i64) w A1 l1.length l1) (hc1 : l1.length ≤ c1) (hr4 : Kd.C (Kd.int .i64) w A4 l4.length l4) (hc4 : l4.length ≤ c4) (h : quinariaref02_Planned.f k l0_0 l0_1 l1 a2 a3 l4 = some r) :
  Calls Tryz.prog 35 #[.agg #[.slice A0_0 l0_0.length c0_0, .slice A0_1 l0_1.length c0_1], .slice A1 l1.length c1, .int .i64 a2, .int .i64 a3, .slice A4 l4.length c4] w fun e w' => e = .returned (.bool r) ∧ Below w.heap.size w w' := by
 have hu25 := Tryz.underlying25
 have HR0_0 := Aside0.mk hr0_0
 have HC0_0 := Aside0.mk hc0_0
 clear hr0_0 hc0_0
 have HR0_1 := Aside0.mk hr0_1
 have HC0_1 := Aside0.mk hc0_1
 clear hr0_1 hc0_1
 have HR1 := Aside0.mk hr1
 have HC1 := Aside0.mk hc1
 clear hr1 hc1
 have HR4 := Aside0.mk hr4
 have HC4 := Aside0.mk hc4
 clear hr4 hc4
 have HB := Aside0.mk (Below.refl w.heap.size w)
 have H : (if (l4.length : Int) = (l0_1.length : Int) then (quinariaref02_Planned.l0 k l1 a2 a3 l4 0 l0_0 l0_1) else (some false)) = some r := h
 clear h
 by_cases c6 : (l4.length : Int) = (l0_1.length : Int)
 ·rw [if_pos c6] at H
  have c6b0 : ((l4.length : Int) == (l0_1.length : Int)) = true := beq_iff_eq.mpr c6
  have c6b1 : ((l4.length : Int) != (l0_1.length : Int)) = false := bne_eq_false_iff_eq.mpr c6
  have c6b2 : (l4.length == l0_1.length) = true := by first | simpa using c6 | (simp at c6 ⊢; omega)
  clear c6
  have H' := Aside0.mk H
  clear H
  go_enter Tryz.func35, Tryz.ntmps35
  go_wp2_with (first | ((with_reducible refine gate_dst (N := 5) rfl ?_); refine bxe 5 #[.slice A0_0 l0_0.length c0_0, .slice A0_1 l0_1.length c0_1] 25 ?_; intro gb910 hg w7 hbox hb; have n0_ := Aside0.mk (below_step uB hb); have n1_ := Aside0.mk (hbox); have n2_ := gw hg; have n3_ := gw hg; clear HB; have HB := n0_; have BK910 := n1_; have GW910 := n2_; have GE910 := n3_; clear n0_ n1_ n2_ n3_; clear hb hbox hg; obtain ⟨hcz8_0, hcz8_1⟩ := cz2 BK910.out; obtain ⟨hfz8_0, hfz8_1⟩ := fz2 BK910.out))
  go_loopg [11] k (fun kq v11 w' => ∃ (x11_1 : Int), v11 = .int .i64 x11_1 ∧ Aside0 (quinariaref02_Planned.l0 kq l1 a2 a3 l4 x11_1 l0_0 l0_1 = some r) ∧ Aside0 (kq ≤ k) ∧ Aside0 (w'.heap[gb910]? = some (.cells #[(.slice A0_0 l0_0.length c0_0), (.slice A0_1 l0_1.length c0_1)] 25 (0, 0))) ∧ Aside0 (Below w.heap.size w w'))
  case atStart => exact ⟨(0), u0, H', ⟨Nat.le_refl _⟩, ⟨uK BK910.out⟩, ⟨uB⟩⟩
  case round =>
   clear H'
   obtain ⟨x11_1, rfl, HA, HK1, BK910, HB⟩ := hrel
   cases gk with
   | zero => exact absurd HA.out (by simp [quinariaref02_Planned.l0])
   | succ k1 =>
    have H := HA.out
    clear HA
    simp only [quinariaref02_Planned.l0] at H
    by_cases c9 : x11_1 < (l4.length : Int)
    ·rw [if_pos c9] at H
     replace c9 := decide_eq_true c9
     obtain ⟨c10, H⟩ := ifs H
     replace c10 := decide_eq_true c10
     obtain ⟨c11, H⟩ := ifs H
     replace c11 := decide_eq_true c11
     replace H := Option.bind_eq_some_iff.mp H
     obtain ⟨t912, A120, H⟩ := H
     replace H : ((quinariaref02_Latest.f k1 l0_0 l0_1 x11_1 a2).bind fun t913 => (if t913 < 0 then (quinariaref02_Planned.j1 k1 l1 a2 a3 l4 x11_1 true l0_0 l0_1) else (if t912 = 1000 then (if (rd l4 x11_1) = (-1) then (quinariaref02_Planned.j1 k1 l1 a2 a3 l4 x11_1 false l0_0 l0_1) else (quinariaref02_Planned.j1 k1 l1 a2 a3 l4 x11_1 true l0_0 l0_1)) else ((quinariaref02_in.f (rd l4 x11_1) 0 t912).bind fun t916 => (quinariaref02_Planned.j1 k1 l1 a2 a3 l4 x11_1 (!t916) l0_0 l0_1))))) = some r := H
     have A12 := Aside0.mk A120
     clear A120
     have HC13 := Aside0.mk H
     clear H
     try go_wp2
     replace BK910 := Aside0.mk (blk_drew BK910.out)
     replace HB := Aside0.mk (below_drew1 HB.out)
     have p911 : 0 ≤ (x11_1 : Int) := of_decide_eq_true (by first | (with_reducible assumption) | assumption)
     have q911 : x11_1 < (l1.length : Int) := of_decide_eq_true (by first | (with_reducible assumption) | assumption)
     obtain ⟨ad911, e911, hx911_0⟩ := Kd.at_int HR1.out x11_1 p911 q911
     have hw911_0 := hx911_0
     cases e911
     replace hx911_0 := hcell HB.out hx911_0
     replace p911 := eq_true p911
     replace q911 := eq_true q911
     refine start_ (n := 10) (S := fun w' => w'.cell? ⟨gb910, 0, none⟩ = some (.slice A0_0 l0_0.length c0_0) ∧ w'.cell? ⟨gb910, 1, none⟩ = some (.slice A0_1 l0_1.length c0_1) ∧ w'.cell? (ad911.add (x11_1).toNat) = some (.int .i64 (rd l1 x11_1))) (ds := []) (bl 10 0) (by kernel_rfl) rfl rfl ⟨(blk_cell BK910.out 0).trans rfl, (blk_cell BK910.out 1).trans rfl, (hcell HB.out hw911_0)⟩ (fun hHeld => ?_); refine with_tabW quinariaref02_Planned.tab6 quinariaref02_Planned.bits6 (fun HT_ HW_ => ?_)
     generalize wr.drew = w14 at BK910 HB hx911_0 hHeld ⊢
     refine pu 1 27 10 2 ?_
     refine pu 2 28 10 6 ?_
     refine pu 3 29 10 14 ?_
     refine pu 4 30 10 30 ?_
     refine pu 6 32 10 94 ?_
     refine pu 7 33 10 222 ?_
     refine tk3 0 26 10 223 hHeld ?_
     refine tk3 5 31 10 255 hHeld ?_
     refine one_ (i := 8) (N := some 34) (bl 10 511) rfl rfl (one_of HT_.out (by kernel_rfl)) (by decide) (fun K hK => ?_)
     refine goes_ Tryz.func75 (by kernel_rfl) rfl #[.agg #[.slice A0_0 l0_0.length c0_0, .slice A0_1 l0_1.length c0_1], .int .i64 x11_1, .int .i64 (rd l1 x11_1), .int .i64 a2, .int .i64 a3] (by rfl) rfl rfl uM ?_
     with_reducible refine (quinariaref02_Last.calls k1 _ _ l0_0 _ _ l0_1 x11_1 (rd l1 x11_1) a2 a3 t912 _ ?side1 ?side2 ?side3 ?side4 A12.out).mono ?_
     (case side1 => exact uC (Kd.C_below HR0_0.out HB.out))
     (case side2 => exact HC0_0.out)
     (case side3 => exact uC (Kd.C_below HR0_1.out HB.out))
     (case side4 => exact HC0_1.out)
     rintro e w15 ⟨rfl, hb⟩
     refine ⟨_, rfl, ?_⟩
     replace BK910 := Aside0.mk (blk_below (uK BK910.out) hb)
     replace HB := Aside0.mk (below_step uB hb)
     (try clear hb)
     (try clear hb2)
     (try clear hk)
     (try clear hi)
     refine hK.out _ _ ⟨(blk_cell BK910.out 0).trans rfl, (blk_cell BK910.out 1).trans rfl, (hcell HB.out hw911_0)⟩ (fun hHeld => ?_)
     clear hK K
     refine nm ?_
     refine pu 9 12 10 1023 ?_
     refine done_ (done_of HT_.out (by kernel_rfl)) ?_
     go_upto_region 7 with (fail)
     go_cut [63] (fun v63 wc => ∃ (kq : Nat) (x63_12 : Bool), v63 = .bool x63_12 ∧ Aside0 (quinariaref02_Planned.j1 kq l1 a2 a3 l4 x11_1 x63_12 l0_0 l0_1 = some r) ∧ Aside0 (kq ≤ k1) ∧ Aside0 (wc.heap[gb910]? = some (.cells #[(.slice A0_0 l0_0.length c0_0), (.slice A0_1 l0_1.length c0_1)] 25 (0, 0))) ∧ Aside0 (Below w.heap.size w wc))
     case first =>
      have H := HC13.out
      clear HC13
      replace H := Option.bind_eq_some_iff.mp H
      obtain ⟨t913, A160, H⟩ := H
      replace H : (if t913 < 0 then (quinariaref02_Planned.j1 k1 l1 a2 a3 l4 x11_1 true l0_0 l0_1) else (if t912 = 1000 then (if (rd l4 x11_1) = (-1) then (quinariaref02_Planned.j1 k1 l1 a2 a3 l4 x11_1 false l0_0 l0_1) else (quinariaref02_Planned.j1 k1 l1 a2 a3 l4 x11_1 true l0_0 l0_1)) else ((quinariaref02_in.f (rd l4 x11_1) 0 t912).bind fun t916 => (quinariaref02_Planned.j1 k1 l1 a2 a3 l4 x11_1 (!t916) l0_0 l0_1)))) = some r := H
      have A16 := Aside0.mk A160
      clear A160
      by_cases c17 : t913 < 0
      ·rw [if_pos c17] at H
       replace c17 := decide_eq_true c17
       (first | rw [c17b0] | (simp only [i64_w, i32_w]; rw [c17b0]) | skip)
       have H' := Aside0.mk H
       clear H
       obtain ⟨hcz18_0, hcz18_1⟩ := cz2 BK910.out
       obtain ⟨hfz18_0, hfz18_1⟩ := fz2 BK910.out
       go_wp2_with (first | ((with_reducible refine gate_callee (f := 30) rfl ?_); refine goesL_ (some 38) rfl rfl Tryz.func30 (by kernel_rfl) rfl #[.agg #[.slice A0_0 l0_0.length c0_0, .slice A0_1 l0_1.length c0_1], .int .i64 x11_1, .int .i64 a2] rfl uM ?_; (with_reducible refine (quinariaref02_Latest.calls k1 _ _ l0_0 _ _ l0_1 x11_1 a2 t913 _ ?side1 ?side2 ?side3 ?side4 A16.out).mono ?_); (case side1 => exact uC (Kd.C_below HR0_0.out HB.out)); (case side2 => exact HC0_0.out); (case side3 => exact uC (Kd.C_below HR0_1.out HB.out)); (case side4 => exact HC0_1.out); rintro e w19 ⟨rfl, hb⟩; refine ⟨_, rfl, ?_⟩; replace BK910 := Aside0.mk (blk_below (uK BK910.out) hb); replace HB := Aside0.mk (below_step uB hb); (try clear hb); (try clear hb2); (try clear hk); (try clear hi)))
       go_meet
       case rel => exact ⟨_, (true), u0, H', ⟨by have := HK1.out; first | omega | exact Nat.le_refl _⟩, ⟨uK BK910.out⟩, ⟨uB⟩⟩
      ·rw [if_neg c17] at H
       replace c17 := decide_eq_false c17
       (first | rw [c17b0] | (simp only [i64_w, i32_w]; rw [c17b0]) | skip)
       by_cases c20 : t912 = 1000
       ·rw [if_pos c20] at H
        have c20b0 : (t912 == 1000) = true := beq_iff_eq.mpr c20
        have c20b1 : (t912 != 1000) = false := bne_eq_false_iff_eq.mpr c20
        clear c20
        by_cases c21 : (rd l4 x11_1) = (-1)
        ·rw [if_pos c21] at H
         have c21b0 : ((rd l4 x11_1) == (-1)) = true := beq_iff_eq.mpr c21
         have c21b1 : ((rd l4 x11_1) != (-1)) = false := bne_eq_false_iff_eq.mpr c21
         clear c21
         have H' := Aside0.mk H
         clear H
         obtain ⟨hcz22_0, hcz22_1⟩ := cz2 BK910.out
         obtain ⟨hfz22_0, hfz22_1⟩ := fz2 BK910.out
         go_wp2_with (first | ((with_reducible refine gate_callee (f := 30) rfl ?_); refine goesL_ (some 38) rfl rfl Tryz.func30 (by kernel_rfl) rfl #[.agg #[.slice A0_0 l0_0.length c0_0, .slice A0_1 l0_1.length c0_1], .int .i64 x11_1, .int .i64 a2] rfl uM ?_; (with_reducible refine (quinariaref02_Latest.calls k1 _ _ l0_0 _ _ l0_1 x11_1 a2 t913 _ ?side1 ?side2 ?side3 ?side4 A16.out).mono ?_); (case side1 => exact uC (Kd.C_below HR0_0.out HB.out)); (case side2 => exact HC0_0.out); (case side3 => exact uC (Kd.C_below HR0_1.out HB.out)); (case side4 => exact HC0_1.out); rintro e w23 ⟨rfl, hb⟩; refine ⟨_, rfl, ?_⟩; replace BK910 := Aside0.mk (blk_below (uK BK910.out) hb); replace HB := Aside0.mk (below_step uB hb); (try clear hb); (try clear hb2); (try clear hk); (try clear hi); have p914 : 0 ≤ (x11_1 : Int) := of_decide_eq_true (by first | (with_reducible assumption) | assumption); have q914 : x11_1 < (l4.length : Int) := of_decide_eq_true (by first | (with_reducible assumption) | assumption); obtain ⟨ad914, e914, hx914_0⟩ := Kd.at_int HR4.out x11_1 p914 q914; cases e914; replace hx914_0 := hcell HB.out hx914_0; replace p914 := eq_true p914; replace q914 := eq_true q914))
         go_meet
         case rel => exact ⟨_, (false), u0, H', ⟨by have := HK1.out; first | omega | exact Nat.le_refl _⟩, ⟨uK BK910.out⟩, ⟨uB⟩⟩
        ·rw [if_neg c21] at H
         have c21b0 : ((rd l4 x11_1) == (-1)) = false := beq_eq_false_iff_ne.mpr c21
         have c21b1 : ((rd l4 x11_1) != (-1)) = true := bne_iff_ne.mpr c21
         have H' := Aside0.mk H
         clear H
         obtain ⟨hcz24_0, hcz24_1⟩ := cz2 BK910.out
         obtain ⟨hfz24_0, hfz24_1⟩ := fz2 BK910.out
         go_wp2_with (first | ((with_reducible refine gate_callee (f := 30) rfl ?_); refine goesL_ (some 38) rfl rfl Tryz.func30 (by kernel_rfl) rfl #[.agg #[.slice A0_0 l0_0.length c0_0, .slice A0_1 l0_1.length c0_1], .int .i64 x11_1, .int .i64 a2] rfl uM ?_; (with_reducible refine (quinariaref02_Latest.calls k1 _ _ l0_0 _ _ l0_1 x11_1 a2 t913 _ ?side1 ?side2 ?side3 ?side4 A16.out).mono ?_); (case side1 => exact uC (Kd.C_below HR0_0.out HB.out)); (case side2 => exact HC0_0.out); (case side3 => exact uC (Kd.C_below HR0_1.out HB.out)); (case side4 => exact HC0_1.out); rintro e w25 ⟨rfl, hb⟩; refine ⟨_, rfl, ?_⟩; replace BK910 := Aside0.mk (blk_below (uK BK910.out) hb); replace HB := Aside0.mk (below_step uB hb); (try clear hb); (try clear hb2); (try clear hk); (try clear hi); have p914 : 0 ≤ (x11_1 : Int) := of_decide_eq_true (by first | (with_reducible assumption) | assumption); have q914 : x11_1 < (l4.length : Int) := of_decide_eq_true (by first | (with_reducible assumption) | assumption); obtain ⟨ad914, e914, hx914_0⟩ := Kd.at_int HR4.out x11_1 p914 q914; cases e914; replace hx914_0 := hcell HB.out hx914_0; replace p914 := eq_true p914; replace q914 := eq_true q914))
         go_meet
         case rel => exact ⟨_, (true), u0, H', ⟨by have := HK1.out; first | omega | exact Nat.le_refl _⟩, ⟨uK BK910.out⟩, ⟨uB⟩⟩
       ·rw [if_neg c20] at H
        have c20b0 : (t912 == 1000) = false := beq_eq_false_iff_ne.mpr c20
        have c20b1 : (t912 != 1000) = true := bne_iff_ne.mpr c20
        replace H := Option.bind_eq_some_iff.mp H
        obtain ⟨t916, A260, H⟩ := H
        replace H : (quinariaref02_Planned.j1 k1 l1 a2 a3 l4 x11_1 (!t916) l0_0 l0_1) = some r := H
        have A26 := Aside0.mk A260
        clear A260
        have H' := Aside0.mk H
        clear H
        obtain ⟨hcz27_0, hcz27_1⟩ := cz2 BK910.out
        obtain ⟨hfz27_0, hfz27_1⟩ := fz2 BK910.out
        go_wp2_with (first | ((with_reducible refine gate_callee (f := 30) rfl ?_); refine goesL_ (some 38) rfl rfl Tryz.func30 (by kernel_rfl) rfl #[.agg #[.slice A0_0 l0_0.length c0_0, .slice A0_1 l0_1.length c0_1], .int .i64 x11_1, .int .i64 a2] rfl uM ?_; (with_reducible refine (quinariaref02_Latest.calls k1 _ _ l0_0 _ _ l0_1 x11_1 a2 t913 _ ?side1 ?side2 ?side3 ?side4 A16.out).mono ?_); (case side1 => exact uC (Kd.C_below HR0_0.out HB.out)); (case side2 => exact HC0_0.out); (case side3 => exact uC (Kd.C_below HR0_1.out HB.out)); (case side4 => exact HC0_1.out); rintro e w28 ⟨rfl, hb⟩; refine ⟨_, rfl, ?_⟩; replace BK910 := Aside0.mk (blk_below (uK BK910.out) hb); replace HB := Aside0.mk (below_step uB hb); (try clear hb); (try clear hb2); (try clear hk); (try clear hi); have p915 : 0 ≤ (x11_1 : Int) := of_decide_eq_true (by first | (with_reducible assumption) | assumption); have q915 : x11_1 < (l4.length : Int) := of_decide_eq_true (by first | (with_reducible assumption) | assumption); obtain ⟨ad915, e915, hx915_0⟩ := Kd.at_int HR4.out x11_1 p915 q915; cases e915; replace hx915_0 := hcell HB.out hx915_0; replace p915 := eq_true p915; replace q915 := eq_true q915) | (go_at_call 42; (with_reducible refine (quinariaref02_in.calls (rd l4 x11_1) 0 t912 t916 _ A26.out).mono ?_); rintro e w' ⟨rfl, ⟨nd, rfl⟩⟩))
        go_meet
        case rel => exact ⟨_, (!t916), u0, H', ⟨by have := HK1.out; first | omega | exact Nat.le_refl _⟩, ⟨uK BK910.out⟩, ⟨uB⟩⟩
     case rest =>
      clear HC13; try clear c1; try clear c2; try clear p2; try clear c3; try clear c4; try clear c6; try clear c6b0; try clear c6b1; try clear c6b2; try clear c7; try clear c9; try clear c9b0; try clear p9; try clear q9; try clear hx9; try clear c10; try clear c10b0; try clear c11; try clear c11b0; try clear c17; try clear c17b0; try clear c20; try clear c20b0; try clear c20b1; try clear c21; try clear c21b0; try clear c21b1; try clear hcz18_0; try clear hcz18_1; try clear hcz22_0; try clear hcz22_1; try clear hcz24_0; try clear hcz24_1; try clear hcz27_0; try clear hcz27_1; try clear hcz8_0; try clear hcz8_1; try clear hfz18_0; try clear hfz18_1; try clear hfz22_0; try clear hfz22_1; try clear hfz24_0; try clear hfz24_1; try clear hfz27_0; try clear hfz27_1; try clear hfz8_0; try clear hfz8_1; try clear hx911_0; try clear hx914_0; try clear hx915_0; try clear p2; try clear p911; try clear p914; try clear p915; try clear q911; try clear q914; try clear q915
      obtain ⟨kq, x63_12, rfl, HA, HJ12, BK910, HB⟩ := hcut
      cases kq with
      | zero => exact absurd HA.out (by simp [quinariaref02_Planned.j1])
      | succ kj12 =>
       have H := HA.out
       clear HA
       simp only [quinariaref02_Planned.j1] at H
       by_cases c29 : x63_12 = true
       ·subst c29
        have H1 : (some false) = some r := by rw [if_pos rfl] at H; exact H
        clear H
        have H := H1
        clear H1
        obtain rfl := Option.some.inj H
        go_wp2
        go_ret
        exact ⟨uE, uB⟩
       ·replace c29 := Bool.eq_false_iff.mpr c29
        subst c29
        have H1 : (quinariaref02_Planned.l1 kj12 l1 a2 a3 l4 x11_1 0 l0_0 l0_1) = some r := by rw [if_neg (show ¬ (false = true) by decide)] at H; exact H
        clear H
        have H := H1
        clear H1
        have H' := Aside0.mk H
        clear H
        go_wp2
        go_loopg [13] kj12 (fun kq v13 w' => ∃ (x13_3 : Int), v13 = .int .i64 x13_3 ∧ Aside0 (quinariaref02_Planned.l1 kq l1 a2 a3 l4 x11_1 x13_3 l0_0 l0_1 = some r) ∧ Aside0 (kq ≤ kj12) ∧ Aside0 (w'.heap[gb910]? = some (.cells #[(.slice A0_0 l0_0.length c0_0), (.slice A0_1 l0_1.length c0_1)] 25 (0, 0))) ∧ Aside0 (Below w.heap.size w w'))
        case atStart => exact ⟨(0), u0, H', ⟨Nat.le_refl _⟩, ⟨uK BK910.out⟩, ⟨uB⟩⟩
        case round =>
         clear H'
         obtain ⟨x13_3, rfl, HA, HK3, BK910, HB⟩ := hrel
         cases gk with
         | zero => exact absurd HA.out (by simp [quinariaref02_Planned.l1])
         | succ k3 =>
          have H := HA.out
          clear HA
          simp only [quinariaref02_Planned.l1] at H
          by_cases c30 : x13_3 < x11_1
          ·rw [if_pos c30] at H
           replace c30 := decide_eq_true c30
           obtain ⟨c31, H⟩ := ifs H
           replace c31 := decide_eq_true c31
           obtain ⟨c32, H⟩ := ifs H
           replace c32 := decide_eq_true c32
           by_cases c33 : (rd l4 x11_1) ≥ 0
           ·rw [if_pos c33] at H
            replace c33 := decide_eq_true c33
            obtain ⟨c34, H⟩ := ifs H
            replace c34 := decide_eq_true c34
            obtain ⟨c35, H⟩ := ifs H
            replace c35 := decide_eq_true c35
            by_cases c36 : (rd l4 x13_3) = (rd l4 x11_1)
            ·rw [if_pos c36] at H
             have c36b0 : ((rd l4 x13_3) == (rd l4 x11_1)) = true := beq_iff_eq.mpr c36
             have c36b1 : ((rd l4 x13_3) != (rd l4 x11_1)) = false := bne_eq_false_iff_eq.mpr c36
             clear c36
             obtain rfl := Option.some.inj H
             try go_wp2
             replace BK910 := Aside0.mk (blk_drew BK910.out)
             replace HB := Aside0.mk (below_drew1 HB.out)
             have p917 : 0 ≤ (x11_1 : Int) := of_decide_eq_true (by first | (with_reducible assumption) | assumption)
             have q917 : x11_1 < (l4.length : Int) := of_decide_eq_true (by first | (with_reducible assumption) | assumption)
             obtain ⟨ad917, e917, hx917_0⟩ := Kd.at_int HR4.out x11_1 p917 q917
             have hw917_0 := hx917_0
             cases e917
             replace hx917_0 := hcell HB.out hx917_0
             replace p917 := eq_true p917
             replace q917 := eq_true q917
             have p918 : 0 ≤ (x13_3 : Int) := of_decide_eq_true (by first | (with_reducible assumption) | assumption)
             have q918 : x13_3 < (l4.length : Int) := of_decide_eq_true (by first | (with_reducible assumption) | assumption)
             obtain ⟨ad918, e918, hx918_0⟩ := Kd.at_int HR4.out x13_3 p918 q918
             have hw918_0 := hx918_0
             obtain rfl : ad917 = ad918 := (by injection e918)
             replace hx918_0 := hcell HB.out hx918_0
             replace p918 := eq_true p918
             replace q918 := eq_true q918
             have p919 : 0 ≤ (x11_1 : Int) := of_decide_eq_true (by first | (with_reducible assumption) | assumption)
             have q919 : x11_1 < (l4.length : Int) := of_decide_eq_true (by first | (with_reducible assumption) | assumption)
             obtain ⟨ad919, e919, hx919_0⟩ := Kd.at_int HR4.out x11_1 p919 q919
             have hw919_0 := hx919_0
             obtain rfl : ad917 = ad919 := (by injection e919)
             replace hx919_0 := hcell HB.out hx919_0
             replace p919 := eq_true p919
             replace q919 := eq_true q919
             refine start_ (n := 16) (S := fun w' => w'.cell? (ad917.add (x11_1).toNat) = some (.int .i64 (rd l4 x11_1)) ∧ w'.cell? (ad917.add (x13_3).toNat) = some (.int .i64 (rd l4 x13_3)) ∧ w'.cell? (ad917.add (x11_1).toNat) = some (.int .i64 (rd l4 x11_1))) (ds := []) (bl 16 0) (by kernel_rfl) rfl rfl ⟨(hcell HB.out hw917_0), (hcell HB.out hw918_0), (hcell HB.out hw919_0)⟩ (fun hHeld => ?_); refine with_tabW quinariaref02_Planned.tab12 quinariaref02_Planned.bits12 (fun HT_ HW_ => ?_)
             generalize wr.drew = w37 at BK910 HB hx917_0 hx918_0 hx919_0 hHeld ⊢
             refine pu 0 69 16 1 ?_
             refine pu 1 70 16 3 ?_
             refine pu 2 71 16 7 ?_
             refine tk3 3 72 16 15 hHeld ?_
             refine pu 4 73 16 31 ?_
             refine pu 5 74 16 63 ?_
             refine pu 6 75 16 127 ?_
             refine pu 7 76 16 255 ?_
             refine pu 8 77 16 511 ?_
             refine pu 10 79 16 1535 ?_
             refine pu 11 80 16 3583 ?_
             refine pu 12 81 16 7679 ?_
             refine tk3 9 78 16 8191 hHeld ?_
             refine tk3 13 82 16 16383 hHeld ?_
             refine pu 14 83 16 32767 ?_
             refine pu 15 84 16 65535 ?_
             refine done_ (done_of HT_.out (by kernel_rfl)) ?_
             try go_wp2
             go_ret
             exact ⟨uE, uB⟩
            ·rw [if_neg c36] at H
             have c36b0 : ((rd l4 x13_3) == (rd l4 x11_1)) = false := beq_eq_false_iff_ne.mpr c36
             have c36b1 : ((rd l4 x13_3) != (rd l4 x11_1)) = true := bne_iff_ne.mpr c36
             have H' := Aside0.mk H
             clear H
             try go_wp2
             replace BK910 := Aside0.mk (blk_drew BK910.out)
             replace HB := Aside0.mk (below_drew1 HB.out)
             have p917 : 0 ≤ (x11_1 : Int) := of_decide_eq_true (by first | (with_reducible assumption) | assumption)
             have q917 : x11_1 < (l4.length : Int) := of_decide_eq_true (by first | (with_reducible assumption) | assumption)
             obtain ⟨ad917, e917, hx917_0⟩ := Kd.at_int HR4.out x11_1 p917 q917
             have hw917_0 := hx917_0
             cases e917
             replace hx917_0 := hcell HB.out hx917_0
             replace p917 := eq_true p917
             replace q917 := eq_true q917
             have p918 : 0 ≤ (x13_3 : Int) := of_decide_eq_true (by first | (with_reducible assumption) | assumption)
             have q918 : x13_3 < (l4.length : Int) := of_decide_eq_true (by first | (with_reducible assumption) | assumption)
             obtain ⟨ad918, e918, hx918_0⟩ := Kd.at_int HR4.out x13_3 p918 q918
             have hw918_0 := hx918_0
             obtain rfl : ad917 = ad918 := (by injection e918)
             replace hx918_0 := hcell HB.out hx918_0
             replace p918 := eq_true p918
             replace q918 := eq_true q918
             have p919 : 0 ≤ (x11_1 : Int) := of_decide_eq_true (by first | (with_reducible assumption) | assumption)
             have q919 : x11_1 < (l4.length : Int) := of_decide_eq_true (by first | (with_reducible assumption) | assumption)
             obtain ⟨ad919, e919, hx919_0⟩ := Kd.at_int HR4.out x11_1 p919 q919
             have hw919_0 := hx919_0
             obtain rfl : ad917 = ad919 := (by injection e919)
             replace hx919_0 := hcell HB.out hx919_0
             replace p919 := eq_true p919
             replace q919 := eq_true q919
             refine start_ (n := 16) (S := fun w' => w'.cell? (ad917.add (x11_1).toNat) = some (.int .i64 (rd l4 x11_1)) ∧ w'.cell? (ad917.add (x13_3).toNat) = some (.int .i64 (rd l4 x13_3)) ∧ w'.cell? (ad917.add (x11_1).toNat) = some (.int .i64 (rd l4 x11_1))) (ds := []) (bl 16 0) (by kernel_rfl) rfl rfl ⟨(hcell HB.out hw917_0), (hcell HB.out hw918_0), (hcell HB.out hw919_0)⟩ (fun hHeld => ?_); refine with_tabW quinariaref02_Planned.tab12 quinariaref02_Planned.bits12 (fun HT_ HW_ => ?_)
             generalize wr.drew = w38 at BK910 HB hx917_0 hx918_0 hx919_0 hHeld ⊢
             refine pu 0 69 16 1 ?_
             refine pu 1 70 16 3 ?_
             refine pu 2 71 16 7 ?_
             refine tk3 3 72 16 15 hHeld ?_
             refine pu 4 73 16 31 ?_
             refine pu 5 74 16 63 ?_
             refine pu 6 75 16 127 ?_
             refine pu 7 76 16 255 ?_
             refine pu 8 77 16 511 ?_
             refine pu 10 79 16 1535 ?_
             refine pu 11 80 16 3583 ?_
             refine pu 12 81 16 7679 ?_
             refine tk3 9 78 16 8191 hHeld ?_
             refine tk3 13 82 16 16383 hHeld ?_
             refine pu 14 83 16 32767 ?_
             refine pu 15 84 16 65535 ?_
             refine done_ (done_of HT_.out (by kernel_rfl)) ?_
             try go_wp2
             go_roundg k3
             case measure => have := HK1.out; have := HJ12.out; have := HK3.out; omega
             case rel => exact ⟨(wrap64 (x13_3 + 1)), u0, H', ⟨by have := HK1.out; have := HJ12.out; have := HK3.out; omega⟩, ⟨uK BK910.out⟩, ⟨uB⟩⟩
           ·rw [if_neg c33] at H
            replace c33 := decide_eq_false c33
            have H' := Aside0.mk H
            clear H
            try go_wp2
            replace BK910 := Aside0.mk (blk_drew BK910.out)
            replace HB := Aside0.mk (below_drew1 HB.out)
            have p917 : 0 ≤ (x11_1 : Int) := of_decide_eq_true (by first | (with_reducible assumption) | assumption)
            have q917 : x11_1 < (l4.length : Int) := of_decide_eq_true (by first | (with_reducible assumption) | assumption)
            obtain ⟨ad917, e917, hx917_0⟩ := Kd.at_int HR4.out x11_1 p917 q917
            have hw917_0 := hx917_0
            cases e917
            replace hx917_0 := hcell HB.out hx917_0
            replace p917 := eq_true p917
            replace q917 := eq_true q917
            refine start_ (n := 16) (S := fun w' => w'.cell? (ad917.add (x11_1).toNat) = some (.int .i64 (rd l4 x11_1))) (ds := []) (bl 16 0) (by kernel_rfl) rfl rfl ((hcell HB.out hw917_0)) (fun hHeld => ?_); refine with_tabW quinariaref02_Planned.tab12 quinariaref02_Planned.bits12 (fun HT_ HW_ => ?_)
            generalize wr.drew = w39 at BK910 HB hx917_0 hHeld ⊢
            refine pu 0 69 16 1 ?_
            refine pu 1 70 16 3 ?_
            refine pu 2 71 16 7 ?_
            refine tk1 3 72 16 15 hHeld ?_
            refine pu 4 73 16 31 ?_
            refine pu 5 74 16 63 ?_
            refine pd 6 75 16 127 ?_
            refine pd 7 76 16 255 ?_
            refine pd 8 77 16 511 ?_
            refine pd 9 78 16 1023 ?_
            refine pd 10 79 16 2047 ?_
            refine pd 11 80 16 4095 ?_
            refine pd 12 81 16 8191 ?_
            refine pd 13 82 16 16383 ?_
            refine pd 14 83 16 32767 ?_
            refine pu 15 84 16 65535 ?_
            refine done_ (done_of HT_.out (by kernel_rfl)) ?_
            try go_wp2
            go_roundg k3
            case measure => have := HK1.out; have := HJ12.out; have := HK3.out; omega
            case rel => exact ⟨(wrap64 (x13_3 + 1)), u0, H', ⟨by have := HK1.out; have := HJ12.out; have := HK3.out; omega⟩, ⟨uK BK910.out⟩, ⟨uB⟩⟩
          ·rw [if_neg c30] at H
           replace c30 := decide_eq_false c30
           have H' := Aside0.mk H
           clear H
           go_wp2
           go_roundg k3
           case measure => have := HK1.out; have := HJ12.out; have := HK3.out; omega
           case rel => exact ⟨(wrap64 (x11_1 + 1)), u0, H', ⟨by have := HK1.out; have := HJ12.out; have := HK3.out; omega⟩, ⟨uK BK910.out⟩, ⟨uB⟩⟩
    ·rw [if_neg c9] at H
     replace c9 := decide_eq_false c9
     obtain rfl := Option.some.inj H
     go_wp2
     go_ret
     exact ⟨uE, uB⟩
 ·rw [if_neg c6] at H
  have c6b0 : ((l4.length : Int) == (l0_1.length : Int)) = false := beq_eq_false_iff_ne.mpr c6
  have c6b1 : ((l4.length : Int) != (l0_1.length : Int)) = true := bne_iff_ne.mpr c6
  have c6b2 : (l4.length == l0_1.length) = false := by first | simpa using c6 | (simp at c6 ⊢; omega)
  obtain rfl := Option.some.inj H
  go_enter Tryz.func35, Tryz.ntmps35
  go_wp2_with (first | ((with_reducible refine gate_dst (N := 5) rfl ?_); refine bxe 5 #[.slice A0_0 l0_0.length c0_0, .slice A0_1 l0_1.length c0_1] 25 ?_; intro gb910 hg w40 hbox hb; have n0_ := Aside0.mk (below_step uB hb); have n1_ := Aside0.mk (hbox); have n2_ := gw hg; have n3_ := gw hg; clear HB; have HB := n0_; have BK910 := n1_; have GW910 := n2_; have GE910 := n3_; clear n0_ n1_ n2_ n3_; clear hb hbox hg; obtain ⟨hcz41_0, hcz41_1⟩ := cz2 BK910.out; obtain ⟨hfz41_0, hfz41_1⟩ := fz2 BK910.out))
  go_ret
  exact ⟨uE, uB⟩
end Go.Proofs.YtdmdahafiiggiaaGreatDoor.K
end
section
namespace Go.Proofs.YtdmdahafiiggiaaGreatDoor.K
open Go.RowKit Go.Proofs.YtdmdahafiiggiaaGreatDoorW.PrintWords Go.Proofs.YtdmdahafiiggiaaGreatDoorW.PrintLast Go.Proofs.YtdmdahafiiggiaaGreatDoorW.PrintMore
attribute [local go_sem] max2_int min2_int max_two min_two max_three min_three max_four min_four
def quinariaref02_Sum.l0 : Nat → List Int → Int → Int → Option (Int)
 | 0, _, _, _ => none
 | k + 1, x0, x3, x4 => if x4 < (x0.length : Int) then (if 0 ≤ x4 then (quinariaref02_Sum.l0 k x0 (wrap64 (x3 + (mx 0 (rd x0 x4)))) (wrap64 (x4 + 1))) else (none)) else (some x3)
def quinariaref02_Sum.f (k : Nat) (l0 : List Int) : Option (Int) := quinariaref02_Sum.l0 k l0 0 0
set_option maxHeartbeats 8000000 in
set_option maxRecDepth 100000 in
theorem quinariaref02_Sum.calls (k : Nat) (A0 : Option Addr) (c0 : Nat) (l0 : List Int) (r : Int) (w : World) (hr0 : Kd.C (Kd.int .i64) w A0 l0.length l0) (hc0 : l0.length ≤ c0) (h : quinariaref02_Sum.f k l0 = some r) :
  Calls Tryz.prog 36 #[.slice A0 l0.length c0] w fun e w' => e = .returned (.int .i64 r) ∧ Below w.heap.size w w' := by
 have HR0 := Aside0.mk hr0
 have HC0 := Aside0.mk hc0
 clear hr0 hc0
 have HB := Aside0.mk (Below.refl w.heap.size w)
 have H : (quinariaref02_Sum.l0 k l0 0 0) = some r := h
 clear h
 have H' := Aside0.mk H
 clear H
 go_enter Tryz.func36, Tryz.ntmps36
 go_wp2
 go_loopg [3, 4] k (fun kq v3 v4 w' => ∃ (x3_1 : Int) (x4_1 : Int), v3 = .int .i64 x3_1 ∧ v4 = .int .i64 x4_1 ∧ Aside0 (quinariaref02_Sum.l0 kq l0 x3_1 x4_1 = some r) ∧ Aside0 (kq ≤ k) ∧ Aside0 (Below w.heap.size w w'))
 case atStart => exact ⟨(0), (0), u0, u0, H', ⟨Nat.le_refl _⟩, ⟨uB⟩⟩
 case round =>
  clear H'
  obtain ⟨x3_1, x4_1, rfl, rfl, HA, HK1, HB⟩ := hrel
  cases gk with
  | zero => exact absurd HA.out (by simp [quinariaref02_Sum.l0])
  | succ k1 =>
   have H := HA.out
   clear HA
   simp only [quinariaref02_Sum.l0] at H
   by_cases c2 : x4_1 < (l0.length : Int)
   ·rw [if_pos c2] at H
    replace c2 := decide_eq_true c2
    obtain ⟨c3, H⟩ := ifs H
    replace c3 := decide_eq_true c3
    obtain ⟨ji4, hji4⟩ : ∃ j_ : Int, (mx 0 (rd l0 x4_1)) = j_ := ⟨_, rfl⟩
    replace H : (quinariaref02_Sum.l0 k1 l0 (wrap64 (x3_1 + (ji4))) (wrap64 (x4_1 + 1))) = some r := by first | (rw [hji4] at H; exact H) | (simp only [hji4] at H ⊢; exact H)
    have hji4_ : (if 0 < (rd l0 x4_1) then (rd l0 x4_1) else 0) = ji4 := hji4
    have H' := Aside0.mk H
    clear H
    have p920 : 0 ≤ (x4_1 : Int) := of_decide_eq_true (by first | (with_reducible assumption) | assumption)
    have q920 : x4_1 < (l0.length : Int) := of_decide_eq_true (by first | (with_reducible assumption) | assumption)
    obtain ⟨ad920, e920, hx920_0⟩ := Kd.at_int HR0.out x4_1 p920 q920
    cases e920
    replace hx920_0 := hcell HB.out hx920_0
    replace p920 := eq_true p920
    replace q920 := eq_true q920
    go_wp2
    go_roundg k1
    case measure => have := HK1.out; omega
    case rel => exact ⟨(wrap64 (x3_1 + (ji4))), (wrap64 (x4_1 + 1)), (by first | rfl | (simp; done) | (simp only [← hji4] <;> (first | rfl | simp)) | (simp [*]; done)), u0, H', ⟨by have := HK1.out; omega⟩, ⟨uB⟩⟩
   ·rw [if_neg c2] at H
    replace c2 := decide_eq_false c2
    obtain rfl := Option.some.inj H
    go_wp2
    go_ret
    exact ⟨uE, uB⟩
end Go.Proofs.YtdmdahafiiggiaaGreatDoor.K
end
section
namespace Go.Proofs.YtdmdahafiiggiaaGreatDoor.K
open Go.RowKit Go.Proofs.YtdmdahafiiggiaaGreatDoorW.PrintWords Go.Proofs.YtdmdahafiiggiaaGreatDoorW.PrintLast Go.Proofs.YtdmdahafiiggiaaGreatDoorW.PrintMore
attribute [local go_sem] max2_int min2_int max_two min_two max_three min_three max_four min_four
mutual
def quinariaref02_Before.l0 : Nat → List Int → List Int → Int → Option (Bool)
 | 0, _, _, _ => none
 | k + 1, x0, x1, x5 => if x5 < (x0.length : Int) then (quinariaref02_Before.j1 k x0 x1 x5 (decide (x5 < (x1.length : Int)))) else (quinariaref02_Before.j1 k x0 x1 x5 false)
def quinariaref02_Before.j1 : Nat → List Int → List Int → Int → Bool → Option (Bool)
 | 0, _, _, _, _ => none
 | k + 1, x0, x1, x5, x15 => if x15 = true then (if 0 ≤ x5 then (if x5 < (x0.length : Int) then (if x5 < (x1.length : Int) then (if (rd x0 x5) = (rd x1 x5) then (quinariaref02_Before.l0 k x0 x1 (wrap64 (x5 + 1))) else (some (decide ((rd x0 x5) < (rd x1 x5))))) else (none)) else (none)) else (none)) else (some (decide ((x0.length : Int) < (x1.length : Int))))
end
def quinariaref02_Before.f (k : Nat) (l0 : List Int) (l1 : List Int) : Option (Bool) := quinariaref02_Before.l0 k l0 l1 0
set_option maxHeartbeats 8000000 in
set_option maxRecDepth 100000 in
theorem quinariaref02_Before.calls (k : Nat) (A0 : Option Addr) (c0 : Nat) (l0 : List Int) (A1 : Option Addr) (c1 : Nat) (l1 : List Int) (r : Bool) (w : World) (hr0 : Kd.C (Kd.int .i64) w A0 l0.length l0) (hc0 : l0.length ≤ c0) (hr1 : Kd.C (Kd.int .i64) w A1 l1.length l1) (hc1 : l1.length ≤ c1) (h : quinariaref02_Before.f k l0 l1 = some r) :
  Calls Tryz.prog 37 #[.slice A0 l0.length c0, .slice A1 l1.length c1] w fun e w' => e = .returned (.bool r) ∧ Drawn0 w w' := by
 have HR0 := Aside0.mk hr0
 have HC0 := Aside0.mk hc0
 clear hr0 hc0
 have HR1 := Aside0.mk hr1
 have HC1 := Aside0.mk hc1
 clear hr1 hc1
 have H : (quinariaref02_Before.l0 k l0 l1 0) = some r := h
 clear h
 have H' := Aside0.mk H
 clear H
 go_enter Tryz.func37, Tryz.ntmps37
 go_wp2
 repeat (go_quiet (fail); try go_wp2)
 go_loopg [5] k (fun kq v5 w' => ∃ (x5_1 : Int), v5 = .int .i64 x5_1 ∧ Aside0 (quinariaref02_Before.l0 kq l0 l1 x5_1 = some r) ∧ Aside0 (kq ≤ k) ∧ Drawn0 w w')
 case atStart => exact ⟨(0), u0, H', ⟨Nat.le_refl _⟩, by repeat (first | exact Drawn0.refl _ | apply Drawn0.step)⟩
 case round =>
  clear H'
  try clear c1; try clear p2
  obtain ⟨x5_1, rfl, HA, HK1, ⟨m1, rfl⟩⟩ := hrel
  cases gk with
  | zero => exact absurd HA.out (by simp [quinariaref02_Before.l0])
  | succ k1 =>
   have H := HA.out
   clear HA
   simp only [quinariaref02_Before.l0] at H
   have HC3 := Aside0.mk H
   clear H
   go_upto_region 2 with (fail)
   repeat (go_quiet (fail); go_upto_region 2 with (fail))
   go_cut [15] (fun v15 wc => ∃ (kq : Nat) (x15_2 : Bool), v15 = .bool x15_2 ∧ Aside0 (quinariaref02_Before.j1 kq l0 l1 x5_1 x15_2 = some r) ∧ Aside0 (kq ≤ k1) ∧ Drawn0 w wc)
   case first =>
    have H := HC3.out
    clear HC3
    by_cases c4 : x5_1 < (l0.length : Int)
    ·rw [if_pos c4] at H
     replace c4 := decide_eq_true c4
     (first | rw [c4b0] | (simp only [i64_w, i32_w]; rw [c4b0]) | skip)
     have H' := Aside0.mk H
     clear H
     go_wp2
     repeat (go_quiet (fail); try go_wp2)
     go_meet
     case rel => exact ⟨_, (decide (x5_1 < (l1.length : Int))), u0, H', ⟨by have := HK1.out; first | omega | exact Nat.le_refl _⟩, by repeat (first | exact Drawn0.refl _ | apply Drawn0.step)⟩
    ·rw [if_neg c4] at H
     replace c4 := decide_eq_false c4
     (first | rw [c4b0] | (simp only [i64_w, i32_w]; rw [c4b0]) | skip)
     have H' := Aside0.mk H
     clear H
     go_wp2
     repeat (go_quiet (fail); try go_wp2)
     go_meet
     case rel => exact ⟨_, (false), u0, H', ⟨by have := HK1.out; first | omega | exact Nat.le_refl _⟩, by repeat (first | exact Drawn0.refl _ | apply Drawn0.step)⟩
   case rest =>
    clear HC3; try clear c1; try clear p2; try clear c3; try clear c4; try clear c4b0; try clear p2
    obtain ⟨kq, x15_2, rfl, HA, HJ2, ⟨mc2, rfl⟩⟩ := hcut
    cases kq with
    | zero => exact absurd HA.out (by simp [quinariaref02_Before.j1])
    | succ kj2 =>
     have H := HA.out
     clear HA
     simp only [quinariaref02_Before.j1] at H
     by_cases c5 : x15_2 = true
     ·subst c5
      have H1 : (if 0 ≤ x5_1 then (if x5_1 < (l0.length : Int) then (if x5_1 < (l1.length : Int) then (if (rd l0 x5_1) = (rd l1 x5_1) then (quinariaref02_Before.l0 kj2 l0 l1 (wrap64 (x5_1 + 1))) else (some (decide ((rd l0 x5_1) < (rd l1 x5_1))))) else (none)) else (none)) else (none)) = some r := by rw [if_pos rfl] at H; exact H
      clear H
      have H := H1
      clear H1
      obtain ⟨c6, H⟩ := ifs H
      replace c6 := decide_eq_true c6
      obtain ⟨c7, H⟩ := ifs H
      replace c7 := decide_eq_true c7
      obtain ⟨c8, H⟩ := ifs H
      replace c8 := decide_eq_true c8
      by_cases c9 : (rd l0 x5_1) = (rd l1 x5_1)
      ·rw [if_pos c9] at H
       have c9b0 : ((rd l0 x5_1) == (rd l1 x5_1)) = true := beq_iff_eq.mpr c9
       have c9b1 : ((rd l0 x5_1) != (rd l1 x5_1)) = false := bne_eq_false_iff_eq.mpr c9
       clear c9
       have H' := Aside0.mk H
       clear H
       have p921 : 0 ≤ (x5_1 : Int) := of_decide_eq_true (by first | (with_reducible assumption) | assumption)
       have q921 : x5_1 < (l0.length : Int) := of_decide_eq_true (by first | (with_reducible assumption) | assumption)
       obtain ⟨ad921, e921, hx921_0⟩ := Kd.at_int HR0.out x5_1 p921 q921
       cases e921
       replace p921 := eq_true p921
       replace q921 := eq_true q921
       have p922 : 0 ≤ (x5_1 : Int) := of_decide_eq_true (by first | (with_reducible assumption) | assumption)
       have q922 : x5_1 < (l1.length : Int) := of_decide_eq_true (by first | (with_reducible assumption) | assumption)
       obtain ⟨ad922, e922, hx922_0⟩ := Kd.at_int HR1.out x5_1 p922 q922
       cases e922
       replace p922 := eq_true p922
       replace q922 := eq_true q922
       go_wp2
       repeat (go_quiet (fail); try go_wp2)
       go_roundg kj2
       case measure => have := HK1.out; have := HJ2.out; omega
       case rel => exact ⟨(wrap64 (x5_1 + 1)), u0, H', ⟨by have := HK1.out; have := HJ2.out; omega⟩, by repeat (first | exact Drawn0.refl _ | apply Drawn0.step)⟩
      ·rw [if_neg c9] at H
       have c9b0 : ((rd l0 x5_1) == (rd l1 x5_1)) = false := beq_eq_false_iff_ne.mpr c9
       have c9b1 : ((rd l0 x5_1) != (rd l1 x5_1)) = true := bne_iff_ne.mpr c9
       obtain rfl := Option.some.inj H
       have p921 : 0 ≤ (x5_1 : Int) := of_decide_eq_true (by first | (with_reducible assumption) | assumption)
       have q921 : x5_1 < (l0.length : Int) := of_decide_eq_true (by first | (with_reducible assumption) | assumption)
       obtain ⟨ad921, e921, hx921_0⟩ := Kd.at_int HR0.out x5_1 p921 q921
       cases e921
       replace p921 := eq_true p921
       replace q921 := eq_true q921
       have p922 : 0 ≤ (x5_1 : Int) := of_decide_eq_true (by first | (with_reducible assumption) | assumption)
       have q922 : x5_1 < (l1.length : Int) := of_decide_eq_true (by first | (with_reducible assumption) | assumption)
       obtain ⟨ad922, e922, hx922_0⟩ := Kd.at_int HR1.out x5_1 p922 q922
       cases e922
       replace p922 := eq_true p922
       replace q922 := eq_true q922
       have p923 : 0 ≤ (x5_1 : Int) := of_decide_eq_true (by first | (with_reducible assumption) | assumption)
       have q923 : x5_1 < (l0.length : Int) := of_decide_eq_true (by first | (with_reducible assumption) | assumption)
       obtain ⟨ad923, e923, hx923_0⟩ := Kd.at_int HR0.out x5_1 p923 q923
       obtain rfl : ad921 = ad923 := (by injection e923)
       replace p923 := eq_true p923
       replace q923 := eq_true q923
       have p924 : 0 ≤ (x5_1 : Int) := of_decide_eq_true (by first | (with_reducible assumption) | assumption)
       have q924 : x5_1 < (l1.length : Int) := of_decide_eq_true (by first | (with_reducible assumption) | assumption)
       obtain ⟨ad924, e924, hx924_0⟩ := Kd.at_int HR1.out x5_1 p924 q924
       obtain rfl : ad922 = ad924 := (by injection e924)
       replace p924 := eq_true p924
       replace q924 := eq_true q924
       go_wp2
       repeat (go_quiet (fail); try go_wp2)
       go_ret
       exact ⟨u0, by repeat (first | exact Drawn0.refl _ | apply Drawn0.step)⟩
     ·replace c5 := Bool.eq_false_iff.mpr c5
      subst c5
      have H1 : (some (decide ((l0.length : Int) < (l1.length : Int)))) = some r := by rw [if_neg (show ¬ (false = true) by decide)] at H; exact H
      clear H
      have H := H1
      clear H1
      obtain rfl := Option.some.inj H
      go_wp2
      repeat (go_quiet (fail); try go_wp2)
      go_ret
      exact ⟨u0, by repeat (first | exact Drawn0.refl _ | apply Drawn0.step)⟩
end Go.Proofs.YtdmdahafiiggiaaGreatDoor.K
end
section
namespace Go.Proofs.YtdmdahafiiggiaaGreatDoor.K
open Go.RowKit Go.Proofs.YtdmdahafiiggiaaGreatDoorW.PrintWords Go.Proofs.YtdmdahafiiggiaaGreatDoorW.PrintLast Go.Proofs.YtdmdahafiiggiaaGreatDoorW.PrintMore
attribute [local go_sem] max2_int min2_int max_two min_two max_three min_three max_four min_four
mutual
def quinarialaw02_ChannelBetter.j0 : Nat → List Int → Int → Int → List Int → Bool → List Int → List (S32) → Option (Bool)
 | 0, _, _, _, _, _, _, _ => none
 | k + 1, x1, x2, x3, x4, x53, x926000, x926001 => if x53 = true then ((quinarialaw02_known.f k).bind fun t931 => (some t931)) else ((channel_Plan.f x926000 x926001 x1 x2 x3).bind fun bt932 => ((quinariaref02_Planned.f k x926000 x926001 x1 x2 x3 x4).bind fun t936 => (if bt932.2 = 0 then (if (bt932.1.length : Int) = (x926001.length : Int) then ((quinariaref02_Planned.f k x926000 x926001 x1 x2 x3 bt932.1).bind fun t938 => (quinarialaw02_ChannelBetter.j1 k x1 x2 x4 bt932.1 t936 (!t938) x926000 x926001)) else (quinarialaw02_ChannelBetter.j1 k x1 x2 x4 bt932.1 t936 true x926000 x926001)) else (if bt932.2 = 5 then (if t936 = true then (some false) else ((quinarialaw02_known.f k).bind fun t937 => (some t937))) else (some false)))))
def quinarialaw02_ChannelBetter.j1 : Nat → List Int → Int → List Int → List Int → Bool → Bool → List Int → List (S32) → Option (Bool)
 | 0, _, _, _, _, _, _, _, _ => none
 | k + 1, x1, x2, x4, x11, x13, x94, x926000, x926001 => if x94 = true then (some false) else (quinarialaw02_ChannelBetter.l0 k x1 x2 x4 x11 x13 0 x926000 x926001)
def quinarialaw02_ChannelBetter.l0 : Nat → List Int → Int → List Int → List Int → Bool → Int → List Int → List (S32) → Option (Bool)
 | 0, _, _, _, _, _, _, _, _ => none
 | k + 1, x1, x2, x4, x11, x13, x14, x926000, x926001 => if x14 < (x11.length : Int) then (if 0 ≤ x14 then (if x14 < (x1.length : Int) then (if (rd x11 x14) ≥ 0 then ((quinariaref02_Age.f (wrap64 ((rd x1 x14) + (mx 0 (rd x11 x14))))).bind fun t942 => (quinarialaw02_ChannelBetter.j3 k x1 x2 x4 x11 x13 x14 (wrap64 ((rd x1 x14) + (mx 0 (rd x11 x14)))) t942 x926000 x926001)) else (quinarialaw02_ChannelBetter.j3 k x1 x2 x4 x11 x13 x14 (wrap64 ((rd x1 x14) + (mx 0 (rd x11 x14)))) false x926000 x926001)) else (none)) else (none)) else ((quinariaref02_Sum.f k x11).bind fun t947 => (if x13 = true then ((quinariaref02_Sum.f k x4).bind fun t948 => (if t948 < t947 then ((quinarialaw02_known.f k).bind fun t949 => (some t949)) else (if t948 = t947 then ((quinariaref02_Before.f k x4 x11).bind fun t950 => (if t950 = true then (some false) else ((quinarialaw02_known.f k).bind fun t951 => (some t951)))) else (some false)))) else ((quinarialaw02_known.f k).bind fun t952 => (some t952))))
def quinarialaw02_ChannelBetter.j3 : Nat → List Int → Int → List Int → List Int → Bool → Int → Int → Bool → List Int → List (S32) → Option (Bool)
 | 0, _, _, _, _, _, _, _, _, _, _ => none
 | k + 1, x1, x2, x4, x11, x13, x14, x15, x119, x926000, x926001 => if x119 = true then ((channel_Carries.f k x926000 x926001 x14 x15).bind fun bt943 => (if bt943.2.2 = 0 then (if bt943.1 < x2 then (some false) else (quinarialaw02_ChannelBetter.l0 k x1 x2 x4 x11 x13 (wrap64 (x14 + 1)) x926000 x926001)) else (some false))) else (quinarialaw02_ChannelBetter.l0 k x1 x2 x4 x11 x13 (wrap64 (x14 + 1)) x926000 x926001)
end
def quinarialaw02_ChannelBetter.f (k : Nat) (l0_0 : List Int) (l0_1 : List (S32)) (l1 : List Int) (a2 : Int) (a3 : Int) (l4 : List Int) : Option (Bool) := (quinarialaw02_short.f l0_0 l0_1).bind fun t926 => (if t926 = true then (if (l1.length : Int) > 10 then (quinarialaw02_ChannelBetter.j0 k l1 a2 a3 l4 true l0_0 l0_1) else (if (l4.length : Int) > 10 then (quinarialaw02_ChannelBetter.j0 k l1 a2 a3 l4 true l0_0 l0_1) else ((quinariaref02_Right.f k l0_0 l0_1).bind fun t927 => (if t927 = true then ((quinariaref02_Ages.f k l0_0 l0_1 l1).bind fun t928 => (if t928 = true then ((quinariaref02_Need.f a2).bind fun t929 => (if t929 = true then ((quinariaref02_Until.f a3).bind fun t930 => (quinarialaw02_ChannelBetter.j0 k l1 a2 a3 l4 (!t930) l0_0 l0_1)) else (quinarialaw02_ChannelBetter.j0 k l1 a2 a3 l4 true l0_0 l0_1))) else (quinarialaw02_ChannelBetter.j0 k l1 a2 a3 l4 true l0_0 l0_1))) else (quinarialaw02_ChannelBetter.j0 k l1 a2 a3 l4 true l0_0 l0_1))))) else (quinarialaw02_ChannelBetter.j0 k l1 a2 a3 l4 true l0_0 l0_1))
set_option maxHeartbeats 8000000 in
set_option maxRecDepth 100000 in
theorem quinarialaw02_ChannelBetter.calls (k : Nat) (A0_0 : Option Addr) (c0_0 : Nat) (l0_0 : List Int) (A0_1 : Option Addr) (c0_1 : Nat) (l0_1 : List (S32)) (A1 : Option Addr) (c1 : Nat) (l1 : List Int) (a2 : Int) (a3 : Int) (A4 : Option Addr) (c4 : Nat) (l4 : List Int) (r : Bool) (w : World) (hr0_0 : Kd.C (Kd.int .i64) w A0_0 l0_0.length l0_0) (hc0_0 : l0_0.length ≤ c0_0) (hr0_1 : Kd.C k32 w A0_1 l0_1.length l0_1) (hc0_1 : l0_1.length ≤ c0_1) (hr1 : Kd.C (Kd.int .i64) w A1 l1.length l1) (hc1 : l1.length ≤ c1) (hr4 : Kd.C (Kd.int .i64) w A4 l4.length l4) (hc4 : l4.length ≤ c4) (hT : TabW w) (h : quinarialaw02_ChannelBetter.f k l0_0 l0_1 l1 a2 a3 l4 = some r) :
  Calls Tryz.prog 10 #[.agg #[.slice A0_0 l0_0.length c0_0, .slice A0_1 l0_1.length c0_1], .slice A1 l1.length c1, .int .i64 a2, .int .i64 a3, .slice A4 l4.length c4] w fun e w' => e = .returned (.bool r) ∧ Below w.heap.size w w' := by
 have HT := Aside0.mk hT
 clear hT
 have hu25 := Tryz.underlying25
 have hu30 := Tryz.underlying30
 have HR0_0 := Aside0.mk hr0_0
 have HC0_0 := Aside0.mk hc0_0
 clear hr0_0 hc0_0
 have HR0_1 := Aside0.mk hr0_1
 have HC0_1 := Aside0.mk hc0_1
 clear hr0_1 hc0_1
 have HR1 := Aside0.mk hr1
 have HC1 := Aside0.mk hc1
 clear hr1 hc1
 have HR4 := Aside0.mk hr4
 have HC4 := Aside0.mk hc4
 clear hr4 hc4
 have HB := Aside0.mk (Below.refl w.heap.size w)
 have H : ((quinarialaw02_short.f l0_0 l0_1).bind fun t926 => (if t926 = true then (if (l1.length : Int) > 10 then (quinarialaw02_ChannelBetter.j0 k l1 a2 a3 l4 true l0_0 l0_1) else (if (l4.length : Int) > 10 then (quinarialaw02_ChannelBetter.j0 k l1 a2 a3 l4 true l0_0 l0_1) else ((quinariaref02_Right.f k l0_0 l0_1).bind fun t927 => (if t927 = true then ((quinariaref02_Ages.f k l0_0 l0_1 l1).bind fun t928 => (if t928 = true then ((quinariaref02_Need.f a2).bind fun t929 => (if t929 = true then ((quinariaref02_Until.f a3).bind fun t930 => (quinarialaw02_ChannelBetter.j0 k l1 a2 a3 l4 (!t930) l0_0 l0_1)) else (quinarialaw02_ChannelBetter.j0 k l1 a2 a3 l4 true l0_0 l0_1))) else (quinarialaw02_ChannelBetter.j0 k l1 a2 a3 l4 true l0_0 l0_1))) else (quinarialaw02_ChannelBetter.j0 k l1 a2 a3 l4 true l0_0 l0_1))))) else (quinarialaw02_ChannelBetter.j0 k l1 a2 a3 l4 true l0_0 l0_1))) = some r := h
 clear h
 have HC6 := Aside0.mk H
 clear H
 go_enter Tryz.func10, Tryz.ntmps10
 go_upto_region 1 with (first | ((with_reducible refine gate_dst (N := 5) rfl ?_); (try (refine gate_guard (by rfl) ?_; dsimp only)); refine bxe 5 #[.slice A0_0 l0_0.length c0_0, .slice A0_1 l0_1.length c0_1] 25 ?_; intro gb925 hg w7 hbox hb; have n0_ := Aside0.mk (below_step uB hb); have n1_ := Aside0.mk (hbox); have n2_ := gw hg; have n3_ := gw hg; clear HB; have HB := n0_; have BK925 := n1_; have GW925 := n2_; have GE925 := n3_; clear n0_ n1_ n2_ n3_; clear hb hbox hg))
 repeat (go_quiet (first | ((with_reducible refine gate_dst (N := 5) rfl ?_); (try (refine gate_guard (by rfl) ?_; dsimp only)); refine bxe 5 #[.slice A0_0 l0_0.length c0_0, .slice A0_1 l0_1.length c0_1] 25 ?_; intro gb925 hg w7 hbox hb; have n0_ := Aside0.mk (below_step uB hb); have n1_ := Aside0.mk (hbox); have n2_ := gw hg; have n3_ := gw hg; clear HB; have HB := n0_; have BK925 := n1_; have GW925 := n2_; have GE925 := n3_; clear n0_ n1_ n2_ n3_; clear hb hbox hg)); go_upto_region 1 with (first | ((with_reducible refine gate_dst (N := 5) rfl ?_); (try (refine gate_guard (by rfl) ?_; dsimp only)); refine bxe 5 #[.slice A0_0 l0_0.length c0_0, .slice A0_1 l0_1.length c0_1] 25 ?_; intro gb925 hg w7 hbox hb; have n0_ := Aside0.mk (below_step uB hb); have n1_ := Aside0.mk (hbox); have n2_ := gw hg; have n3_ := gw hg; clear HB; have HB := n0_; have BK925 := n1_; have GW925 := n2_; have GE925 := n3_; clear n0_ n1_ n2_ n3_; clear hb hbox hg)))
 (try simp only [Act.put, List.setIfInBounds_toArray, List.set_cons_zero, List.set_cons_succ])
 go_cut [53] (fun v53 wc => ∃ (kq : Nat) (x53_5 : Bool), v53 = .bool x53_5 ∧ Aside0 (quinarialaw02_ChannelBetter.j0 kq l1 a2 a3 l4 x53_5 l0_0 l0_1 = some r) ∧ Aside0 (kq ≤ k) ∧ Aside0 (wc.heap[gb925]? = some (.cells #[(.slice A0_0 l0_0.length c0_0), (.slice A0_1 l0_1.length c0_1)] 25 (0, 0))) ∧ Aside0 (Below w.heap.size w wc))
 case first =>
  have H := HC6.out
  clear HC6
  replace H := Option.bind_eq_some_iff.mp H
  obtain ⟨t926, A80, H⟩ := H
  replace H : (if t926 = true then (if (l1.length : Int) > 10 then (quinarialaw02_ChannelBetter.j0 k l1 a2 a3 l4 true l0_0 l0_1) else (if (l4.length : Int) > 10 then (quinarialaw02_ChannelBetter.j0 k l1 a2 a3 l4 true l0_0 l0_1) else ((quinariaref02_Right.f k l0_0 l0_1).bind fun t927 => (if t927 = true then ((quinariaref02_Ages.f k l0_0 l0_1 l1).bind fun t928 => (if t928 = true then ((quinariaref02_Need.f a2).bind fun t929 => (if t929 = true then ((quinariaref02_Until.f a3).bind fun t930 => (quinarialaw02_ChannelBetter.j0 k l1 a2 a3 l4 (!t930) l0_0 l0_1)) else (quinarialaw02_ChannelBetter.j0 k l1 a2 a3 l4 true l0_0 l0_1))) else (quinarialaw02_ChannelBetter.j0 k l1 a2 a3 l4 true l0_0 l0_1))) else (quinarialaw02_ChannelBetter.j0 k l1 a2 a3 l4 true l0_0 l0_1))))) else (quinarialaw02_ChannelBetter.j0 k l1 a2 a3 l4 true l0_0 l0_1)) = some r := H
  have A8 := Aside0.mk A80
  clear A80
  by_cases c9 : t926 = true
  ·subst c9
   have H1 : (if (l1.length : Int) > 10 then (quinarialaw02_ChannelBetter.j0 k l1 a2 a3 l4 true l0_0 l0_1) else (if (l4.length : Int) > 10 then (quinarialaw02_ChannelBetter.j0 k l1 a2 a3 l4 true l0_0 l0_1) else ((quinariaref02_Right.f k l0_0 l0_1).bind fun t927 => (if t927 = true then ((quinariaref02_Ages.f k l0_0 l0_1 l1).bind fun t928 => (if t928 = true then ((quinariaref02_Need.f a2).bind fun t929 => (if t929 = true then ((quinariaref02_Until.f a3).bind fun t930 => (quinarialaw02_ChannelBetter.j0 k l1 a2 a3 l4 (!t930) l0_0 l0_1)) else (quinarialaw02_ChannelBetter.j0 k l1 a2 a3 l4 true l0_0 l0_1))) else (quinarialaw02_ChannelBetter.j0 k l1 a2 a3 l4 true l0_0 l0_1))) else (quinarialaw02_ChannelBetter.j0 k l1 a2 a3 l4 true l0_0 l0_1))))) = some r := by rw [if_pos rfl] at H; exact H
   clear H
   have H := H1
   clear H1
   by_cases c10 : (l1.length : Int) > 10
   ·rw [if_pos c10] at H
    have c10b0 : decide (10 < (l1.length : Int)) = true := decide_eq_true c10
    have c10b1 : decide (10 < l1.length) = true := decide_eq_true (by omega)
    clear c10
    (first | rw [c10b0] | (simp only [i64_w, i32_w]; rw [c10b0]) | skip)
    have H' := Aside0.mk H
    clear H
    obtain ⟨hcz11_0, hcz11_1⟩ := cz2 BK925.out
    obtain ⟨hfz11_0, hfz11_1⟩ := fz2 BK925.out
    go_wp2_with (first | (go_at_call 13; (with_reducible refine (quinarialaw02_short.calls _ _ l0_0 _ _ l0_1 true _ ?side1 ?side2 ?side3 ?side4 A8.out).mono ?_); (case side1 => repeat (first | exact (Kd.C_below HR0_0.out HB.out) | (with_reducible refine Kd.C_alloc ?_ _) | (with_reducible refine Kd.C_drewN ?_ _) | (with_reducible refine Kd.C_drew ?_))); (case side2 => exact HC0_0.out); (case side3 => repeat (first | exact (Kd.C_below HR0_1.out HB.out) | (with_reducible refine Kd.C_alloc ?_ _) | (with_reducible refine Kd.C_drewN ?_ _) | (with_reducible refine Kd.C_drew ?_))); (case side4 => exact HC0_1.out); rintro e w12 ⟨rfl, hb⟩; replace BK925 := Aside0.mk (blk_below (uK BK925.out) hb); replace HB := Aside0.mk (below_step uB hb); (try clear hb); (try clear hb2); (try clear hk); (try clear hi)))
    repeat (go_quiet (first | (go_at_call 13; (with_reducible refine (quinarialaw02_short.calls _ _ l0_0 _ _ l0_1 true _ ?side1 ?side2 ?side3 ?side4 A8.out).mono ?_); (case side1 => repeat (first | exact (Kd.C_below HR0_0.out HB.out) | (with_reducible refine Kd.C_alloc ?_ _) | (with_reducible refine Kd.C_drewN ?_ _) | (with_reducible refine Kd.C_drew ?_))); (case side2 => exact HC0_0.out); (case side3 => repeat (first | exact (Kd.C_below HR0_1.out HB.out) | (with_reducible refine Kd.C_alloc ?_ _) | (with_reducible refine Kd.C_drewN ?_ _) | (with_reducible refine Kd.C_drew ?_))); (case side4 => exact HC0_1.out); rintro e w12 ⟨rfl, hb⟩; replace BK925 := Aside0.mk (blk_below (uK BK925.out) hb); replace HB := Aside0.mk (below_step uB hb); (try clear hb); (try clear hb2); (try clear hk); (try clear hi))); try go_wp2_with (first | (go_at_call 13; (with_reducible refine (quinarialaw02_short.calls _ _ l0_0 _ _ l0_1 true _ ?side1 ?side2 ?side3 ?side4 A8.out).mono ?_); (case side1 => repeat (first | exact (Kd.C_below HR0_0.out HB.out) | (with_reducible refine Kd.C_alloc ?_ _) | (with_reducible refine Kd.C_drewN ?_ _) | (with_reducible refine Kd.C_drew ?_))); (case side2 => exact HC0_0.out); (case side3 => repeat (first | exact (Kd.C_below HR0_1.out HB.out) | (with_reducible refine Kd.C_alloc ?_ _) | (with_reducible refine Kd.C_drewN ?_ _) | (with_reducible refine Kd.C_drew ?_))); (case side4 => exact HC0_1.out); rintro e w12 ⟨rfl, hb⟩; replace BK925 := Aside0.mk (blk_below (uK BK925.out) hb); replace HB := Aside0.mk (below_step uB hb); (try clear hb); (try clear hb2); (try clear hk); (try clear hi))))
    go_meet
    case rel => exact ⟨_, (true), u0, H', ⟨u1⟩, ⟨uK BK925.out⟩, ⟨uB⟩⟩
   ·rw [if_neg c10] at H
    have c10b0 : decide (10 < (l1.length : Int)) = false := decide_eq_false c10
    have c10b1 : decide (10 < l1.length) = false := decide_eq_false (by omega)
    clear c10
    (first | rw [c10b0] | (simp only [i64_w, i32_w]; rw [c10b0]) | skip)
    by_cases c13 : (l4.length : Int) > 10
    ·rw [if_pos c13] at H
     have c13b0 : decide (10 < (l4.length : Int)) = true := decide_eq_true c13
     have c13b1 : decide (10 < l4.length) = true := decide_eq_true (by omega)
     clear c13
     have H' := Aside0.mk H
     clear H
     obtain ⟨hcz14_0, hcz14_1⟩ := cz2 BK925.out
     obtain ⟨hfz14_0, hfz14_1⟩ := fz2 BK925.out
     go_wp2_with (first | (go_at_call 13; (with_reducible refine (quinarialaw02_short.calls _ _ l0_0 _ _ l0_1 true _ ?side1 ?side2 ?side3 ?side4 A8.out).mono ?_); (case side1 => repeat (first | exact (Kd.C_below HR0_0.out HB.out) | (with_reducible refine Kd.C_alloc ?_ _) | (with_reducible refine Kd.C_drewN ?_ _) | (with_reducible refine Kd.C_drew ?_))); (case side2 => exact HC0_0.out); (case side3 => repeat (first | exact (Kd.C_below HR0_1.out HB.out) | (with_reducible refine Kd.C_alloc ?_ _) | (with_reducible refine Kd.C_drewN ?_ _) | (with_reducible refine Kd.C_drew ?_))); (case side4 => exact HC0_1.out); rintro e w15 ⟨rfl, hb⟩; replace BK925 := Aside0.mk (blk_below (uK BK925.out) hb); replace HB := Aside0.mk (below_step uB hb); (try clear hb); (try clear hb2); (try clear hk); (try clear hi)))
     repeat (go_quiet (first | (go_at_call 13; (with_reducible refine (quinarialaw02_short.calls _ _ l0_0 _ _ l0_1 true _ ?side1 ?side2 ?side3 ?side4 A8.out).mono ?_); (case side1 => repeat (first | exact (Kd.C_below HR0_0.out HB.out) | (with_reducible refine Kd.C_alloc ?_ _) | (with_reducible refine Kd.C_drewN ?_ _) | (with_reducible refine Kd.C_drew ?_))); (case side2 => exact HC0_0.out); (case side3 => repeat (first | exact (Kd.C_below HR0_1.out HB.out) | (with_reducible refine Kd.C_alloc ?_ _) | (with_reducible refine Kd.C_drewN ?_ _) | (with_reducible refine Kd.C_drew ?_))); (case side4 => exact HC0_1.out); rintro e w15 ⟨rfl, hb⟩; replace BK925 := Aside0.mk (blk_below (uK BK925.out) hb); replace HB := Aside0.mk (below_step uB hb); (try clear hb); (try clear hb2); (try clear hk); (try clear hi))); try go_wp2_with (first | (go_at_call 13; (with_reducible refine (quinarialaw02_short.calls _ _ l0_0 _ _ l0_1 true _ ?side1 ?side2 ?side3 ?side4 A8.out).mono ?_); (case side1 => repeat (first | exact (Kd.C_below HR0_0.out HB.out) | (with_reducible refine Kd.C_alloc ?_ _) | (with_reducible refine Kd.C_drewN ?_ _) | (with_reducible refine Kd.C_drew ?_))); (case side2 => exact HC0_0.out); (case side3 => repeat (first | exact (Kd.C_below HR0_1.out HB.out) | (with_reducible refine Kd.C_alloc ?_ _) | (with_reducible refine Kd.C_drewN ?_ _) | (with_reducible refine Kd.C_drew ?_))); (case side4 => exact HC0_1.out); rintro e w15 ⟨rfl, hb⟩; replace BK925 := Aside0.mk (blk_below (uK BK925.out) hb); replace HB := Aside0.mk (below_step uB hb); (try clear hb); (try clear hb2); (try clear hk); (try clear hi))))
     go_meet
     case rel => exact ⟨_, (true), u0, H', ⟨u1⟩, ⟨uK BK925.out⟩, ⟨uB⟩⟩
    ·rw [if_neg c13] at H
     have c13b0 : decide (10 < (l4.length : Int)) = false := decide_eq_false c13
     have c13b1 : decide (10 < l4.length) = false := decide_eq_false (by omega)
     clear c13
     replace H := Option.bind_eq_some_iff.mp H
     obtain ⟨t927, A160, H⟩ := H
     replace H : (if t927 = true then ((quinariaref02_Ages.f k l0_0 l0_1 l1).bind fun t928 => (if t928 = true then ((quinariaref02_Need.f a2).bind fun t929 => (if t929 = true then ((quinariaref02_Until.f a3).bind fun t930 => (quinarialaw02_ChannelBetter.j0 k l1 a2 a3 l4 (!t930) l0_0 l0_1)) else (quinarialaw02_ChannelBetter.j0 k l1 a2 a3 l4 true l0_0 l0_1))) else (quinarialaw02_ChannelBetter.j0 k l1 a2 a3 l4 true l0_0 l0_1))) else (quinarialaw02_ChannelBetter.j0 k l1 a2 a3 l4 true l0_0 l0_1)) = some r := H
     have A16 := Aside0.mk A160
     clear A160
     by_cases c17 : t927 = true
     ·subst c17
      have H1 : ((quinariaref02_Ages.f k l0_0 l0_1 l1).bind fun t928 => (if t928 = true then ((quinariaref02_Need.f a2).bind fun t929 => (if t929 = true then ((quinariaref02_Until.f a3).bind fun t930 => (quinarialaw02_ChannelBetter.j0 k l1 a2 a3 l4 (!t930) l0_0 l0_1)) else (quinarialaw02_ChannelBetter.j0 k l1 a2 a3 l4 true l0_0 l0_1))) else (quinarialaw02_ChannelBetter.j0 k l1 a2 a3 l4 true l0_0 l0_1))) = some r := by rw [if_pos rfl] at H; exact H
      clear H
      have H := H1
      clear H1
      replace H := Option.bind_eq_some_iff.mp H
      obtain ⟨t928, A180, H⟩ := H
      replace H : (if t928 = true then ((quinariaref02_Need.f a2).bind fun t929 => (if t929 = true then ((quinariaref02_Until.f a3).bind fun t930 => (quinarialaw02_ChannelBetter.j0 k l1 a2 a3 l4 (!t930) l0_0 l0_1)) else (quinarialaw02_ChannelBetter.j0 k l1 a2 a3 l4 true l0_0 l0_1))) else (quinarialaw02_ChannelBetter.j0 k l1 a2 a3 l4 true l0_0 l0_1)) = some r := H
      have A18 := Aside0.mk A180
      clear A180
      by_cases c19 : t928 = true
      ·subst c19
       have H1 : ((quinariaref02_Need.f a2).bind fun t929 => (if t929 = true then ((quinariaref02_Until.f a3).bind fun t930 => (quinarialaw02_ChannelBetter.j0 k l1 a2 a3 l4 (!t930) l0_0 l0_1)) else (quinarialaw02_ChannelBetter.j0 k l1 a2 a3 l4 true l0_0 l0_1))) = some r := by rw [if_pos rfl] at H; exact H
       clear H
       have H := H1
       clear H1
       replace H := Option.bind_eq_some_iff.mp H
       obtain ⟨t929, A200, H⟩ := H
       replace H : (if t929 = true then ((quinariaref02_Until.f a3).bind fun t930 => (quinarialaw02_ChannelBetter.j0 k l1 a2 a3 l4 (!t930) l0_0 l0_1)) else (quinarialaw02_ChannelBetter.j0 k l1 a2 a3 l4 true l0_0 l0_1)) = some r := H
       have A20 := Aside0.mk A200
       clear A200
       by_cases c21 : t929 = true
       ·subst c21
        have H1 : ((quinariaref02_Until.f a3).bind fun t930 => (quinarialaw02_ChannelBetter.j0 k l1 a2 a3 l4 (!t930) l0_0 l0_1)) = some r := by rw [if_pos rfl] at H; exact H
        clear H
        have H := H1
        clear H1
        replace H := Option.bind_eq_some_iff.mp H
        obtain ⟨t930, A220, H⟩ := H
        replace H : (quinarialaw02_ChannelBetter.j0 k l1 a2 a3 l4 (!t930) l0_0 l0_1) = some r := H
        have A22 := Aside0.mk A220
        clear A220
        have H' := Aside0.mk H
        clear H
        obtain ⟨hcz23_0, hcz23_1⟩ := cz2 BK925.out
        obtain ⟨hfz23_0, hfz23_1⟩ := fz2 BK925.out
        go_wp2_with (first | (go_at_call 13; (with_reducible refine (quinarialaw02_short.calls _ _ l0_0 _ _ l0_1 true _ ?side1 ?side2 ?side3 ?side4 A8.out).mono ?_); (case side1 => repeat (first | exact (Kd.C_below HR0_0.out HB.out) | (with_reducible refine Kd.C_alloc ?_ _) | (with_reducible refine Kd.C_drewN ?_ _) | (with_reducible refine Kd.C_drew ?_))); (case side2 => exact HC0_0.out); (case side3 => repeat (first | exact (Kd.C_below HR0_1.out HB.out) | (with_reducible refine Kd.C_alloc ?_ _) | (with_reducible refine Kd.C_drewN ?_ _) | (with_reducible refine Kd.C_drew ?_))); (case side4 => exact HC0_1.out); rintro e w24 ⟨rfl, hb⟩; replace BK925 := Aside0.mk (blk_below (uK BK925.out) hb); replace HB := Aside0.mk (below_step uB hb); (try clear hb); (try clear hb2); (try clear hk); (try clear hi); obtain ⟨hcz25_0, hcz25_1⟩ := cz2 BK925.out; obtain ⟨hfz25_0, hfz25_1⟩ := fz2 BK925.out) | (go_at_call 14; (with_reducible refine (quinariaref02_Right.calls k _ _ l0_0 _ _ l0_1 true _ ?side1 ?side2 ?side3 ?side4 A16.out).mono ?_); (case side1 => repeat (first | exact (Kd.C_below HR0_0.out HB.out) | (with_reducible refine Kd.C_alloc ?_ _) | (with_reducible refine Kd.C_drewN ?_ _) | (with_reducible refine Kd.C_drew ?_))); (case side2 => exact HC0_0.out); (case side3 => repeat (first | exact (Kd.C_below HR0_1.out HB.out) | (with_reducible refine Kd.C_alloc ?_ _) | (with_reducible refine Kd.C_drewN ?_ _) | (with_reducible refine Kd.C_drew ?_))); (case side4 => exact HC0_1.out); rintro e w26 ⟨rfl, hb⟩; replace BK925 := Aside0.mk (blk_below (uK BK925.out) hb); replace HB := Aside0.mk (below_step uB hb); (try clear hb); (try clear hb2); (try clear hk); (try clear hi); obtain ⟨hcz27_0, hcz27_1⟩ := cz2 BK925.out; obtain ⟨hfz27_0, hfz27_1⟩ := fz2 BK925.out) | (go_at_call 22; (with_reducible refine (quinariaref02_Ages.calls k _ _ l0_0 _ _ l0_1 _ _ l1 true _ ?side1 ?side2 ?side3 ?side4 ?side5 ?side6 A18.out).mono ?_); (case side1 => repeat (first | exact (Kd.C_below HR0_0.out HB.out) | (with_reducible refine Kd.C_alloc ?_ _) | (with_reducible refine Kd.C_drewN ?_ _) | (with_reducible refine Kd.C_drew ?_))); (case side2 => exact HC0_0.out); (case side3 => repeat (first | exact (Kd.C_below HR0_1.out HB.out) | (with_reducible refine Kd.C_alloc ?_ _) | (with_reducible refine Kd.C_drewN ?_ _) | (with_reducible refine Kd.C_drew ?_))); (case side4 => exact HC0_1.out); (case side5 => repeat (first | exact (Kd.C_below HR1.out HB.out) | (with_reducible refine Kd.C_alloc ?_ _) | (with_reducible refine Kd.C_drewN ?_ _) | (with_reducible refine Kd.C_drew ?_))); (case side6 => exact HC1.out); rintro e w28 ⟨rfl, hb⟩; replace BK925 := Aside0.mk (blk_below (uK BK925.out) hb); replace HB := Aside0.mk (below_step uB hb); (try clear hb); (try clear hb2); (try clear hk); (try clear hi)) | (go_at_call 29; (with_reducible refine (quinariaref02_Need.calls a2 true _ A20.out).mono ?_); rintro e w' ⟨rfl, ⟨nd, rfl⟩⟩; (try first | exact ⟨rfl, _, World.drewN_drewN _ _ _⟩ | exact ⟨rfl, _, Eq.trans (World.drewN_drewN _ _ _) (congrArg (World.drewN _) (Nat.add_assoc _ _ _))⟩)) | (go_at_call 33; (with_reducible refine (quinariaref02_Until.calls a3 t930 _ A22.out).mono ?_); rintro e w' ⟨rfl, ⟨nd, rfl⟩⟩; (try first | exact ⟨rfl, _, World.drewN_drewN _ _ _⟩ | exact ⟨rfl, _, Eq.trans (World.drewN_drewN _ _ _) (congrArg (World.drewN _) (Nat.add_assoc _ _ _))⟩)))
        repeat (go_quiet (first | (go_at_call 13; (with_reducible refine (quinarialaw02_short.calls _ _ l0_0 _ _ l0_1 true _ ?side1 ?side2 ?side3 ?side4 A8.out).mono ?_); (case side1 => repeat (first | exact (Kd.C_below HR0_0.out HB.out) | (with_reducible refine Kd.C_alloc ?_ _) | (with_reducible refine Kd.C_drewN ?_ _) | (with_reducible refine Kd.C_drew ?_))); (case side2 => exact HC0_0.out); (case side3 => repeat (first | exact (Kd.C_below HR0_1.out HB.out) | (with_reducible refine Kd.C_alloc ?_ _) | (with_reducible refine Kd.C_drewN ?_ _) | (with_reducible refine Kd.C_drew ?_))); (case side4 => exact HC0_1.out); rintro e w24 ⟨rfl, hb⟩; replace BK925 := Aside0.mk (blk_below (uK BK925.out) hb); replace HB := Aside0.mk (below_step uB hb); (try clear hb); (try clear hb2); (try clear hk); (try clear hi); obtain ⟨hcz25_0, hcz25_1⟩ := cz2 BK925.out; obtain ⟨hfz25_0, hfz25_1⟩ := fz2 BK925.out) | (go_at_call 14; (with_reducible refine (quinariaref02_Right.calls k _ _ l0_0 _ _ l0_1 true _ ?side1 ?side2 ?side3 ?side4 A16.out).mono ?_); (case side1 => repeat (first | exact (Kd.C_below HR0_0.out HB.out) | (with_reducible refine Kd.C_alloc ?_ _) | (with_reducible refine Kd.C_drewN ?_ _) | (with_reducible refine Kd.C_drew ?_))); (case side2 => exact HC0_0.out); (case side3 => repeat (first | exact (Kd.C_below HR0_1.out HB.out) | (with_reducible refine Kd.C_alloc ?_ _) | (with_reducible refine Kd.C_drewN ?_ _) | (with_reducible refine Kd.C_drew ?_))); (case side4 => exact HC0_1.out); rintro e w26 ⟨rfl, hb⟩; replace BK925 := Aside0.mk (blk_below (uK BK925.out) hb); replace HB := Aside0.mk (below_step uB hb); (try clear hb); (try clear hb2); (try clear hk); (try clear hi); obtain ⟨hcz27_0, hcz27_1⟩ := cz2 BK925.out; obtain ⟨hfz27_0, hfz27_1⟩ := fz2 BK925.out) | (go_at_call 22; (with_reducible refine (quinariaref02_Ages.calls k _ _ l0_0 _ _ l0_1 _ _ l1 true _ ?side1 ?side2 ?side3 ?side4 ?side5 ?side6 A18.out).mono ?_); (case side1 => repeat (first | exact (Kd.C_below HR0_0.out HB.out) | (with_reducible refine Kd.C_alloc ?_ _) | (with_reducible refine Kd.C_drewN ?_ _) | (with_reducible refine Kd.C_drew ?_))); (case side2 => exact HC0_0.out); (case side3 => repeat (first | exact (Kd.C_below HR0_1.out HB.out) | (with_reducible refine Kd.C_alloc ?_ _) | (with_reducible refine Kd.C_drewN ?_ _) | (with_reducible refine Kd.C_drew ?_))); (case side4 => exact HC0_1.out); (case side5 => repeat (first | exact (Kd.C_below HR1.out HB.out) | (with_reducible refine Kd.C_alloc ?_ _) | (with_reducible refine Kd.C_drewN ?_ _) | (with_reducible refine Kd.C_drew ?_))); (case side6 => exact HC1.out); rintro e w28 ⟨rfl, hb⟩; replace BK925 := Aside0.mk (blk_below (uK BK925.out) hb); replace HB := Aside0.mk (below_step uB hb); (try clear hb); (try clear hb2); (try clear hk); (try clear hi)) | (go_at_call 29; (with_reducible refine (quinariaref02_Need.calls a2 true _ A20.out).mono ?_); rintro e w' ⟨rfl, ⟨nd, rfl⟩⟩; (try first | exact ⟨rfl, _, World.drewN_drewN _ _ _⟩ | exact ⟨rfl, _, Eq.trans (World.drewN_drewN _ _ _) (congrArg (World.drewN _) (Nat.add_assoc _ _ _))⟩)) | (go_at_call 33; (with_reducible refine (quinariaref02_Until.calls a3 t930 _ A22.out).mono ?_); rintro e w' ⟨rfl, ⟨nd, rfl⟩⟩; (try first | exact ⟨rfl, _, World.drewN_drewN _ _ _⟩ | exact ⟨rfl, _, Eq.trans (World.drewN_drewN _ _ _) (congrArg (World.drewN _) (Nat.add_assoc _ _ _))⟩))); try go_wp2_with (first | (go_at_call 13; (with_reducible refine (quinarialaw02_short.calls _ _ l0_0 _ _ l0_1 true _ ?side1 ?side2 ?side3 ?side4 A8.out).mono ?_); (case side1 => repeat (first | exact (Kd.C_below HR0_0.out HB.out) | (with_reducible refine Kd.C_alloc ?_ _) | (with_reducible refine Kd.C_drewN ?_ _) | (with_reducible refine Kd.C_drew ?_))); (case side2 => exact HC0_0.out); (case side3 => repeat (first | exact (Kd.C_below HR0_1.out HB.out) | (with_reducible refine Kd.C_alloc ?_ _) | (with_reducible refine Kd.C_drewN ?_ _) | (with_reducible refine Kd.C_drew ?_))); (case side4 => exact HC0_1.out); rintro e w24 ⟨rfl, hb⟩; replace BK925 := Aside0.mk (blk_below (uK BK925.out) hb); replace HB := Aside0.mk (below_step uB hb); (try clear hb); (try clear hb2); (try clear hk); (try clear hi); obtain ⟨hcz25_0, hcz25_1⟩ := cz2 BK925.out; obtain ⟨hfz25_0, hfz25_1⟩ := fz2 BK925.out) | (go_at_call 14; (with_reducible refine (quinariaref02_Right.calls k _ _ l0_0 _ _ l0_1 true _ ?side1 ?side2 ?side3 ?side4 A16.out).mono ?_); (case side1 => repeat (first | exact (Kd.C_below HR0_0.out HB.out) | (with_reducible refine Kd.C_alloc ?_ _) | (with_reducible refine Kd.C_drewN ?_ _) | (with_reducible refine Kd.C_drew ?_))); (case side2 => exact HC0_0.out); (case side3 => repeat (first | exact (Kd.C_below HR0_1.out HB.out) | (with_reducible refine Kd.C_alloc ?_ _) | (with_reducible refine Kd.C_drewN ?_ _) | (with_reducible refine Kd.C_drew ?_))); (case side4 => exact HC0_1.out); rintro e w26 ⟨rfl, hb⟩; replace BK925 := Aside0.mk (blk_below (uK BK925.out) hb); replace HB := Aside0.mk (below_step uB hb); (try clear hb); (try clear hb2); (try clear hk); (try clear hi); obtain ⟨hcz27_0, hcz27_1⟩ := cz2 BK925.out; obtain ⟨hfz27_0, hfz27_1⟩ := fz2 BK925.out) | (go_at_call 22; (with_reducible refine (quinariaref02_Ages.calls k _ _ l0_0 _ _ l0_1 _ _ l1 true _ ?side1 ?side2 ?side3 ?side4 ?side5 ?side6 A18.out).mono ?_); (case side1 => repeat (first | exact (Kd.C_below HR0_0.out HB.out) | (with_reducible refine Kd.C_alloc ?_ _) | (with_reducible refine Kd.C_drewN ?_ _) | (with_reducible refine Kd.C_drew ?_))); (case side2 => exact HC0_0.out); (case side3 => repeat (first | exact (Kd.C_below HR0_1.out HB.out) | (with_reducible refine Kd.C_alloc ?_ _) | (with_reducible refine Kd.C_drewN ?_ _) | (with_reducible refine Kd.C_drew ?_))); (case side4 => exact HC0_1.out); (case side5 => repeat (first | exact (Kd.C_below HR1.out HB.out) | (with_reducible refine Kd.C_alloc ?_ _) | (with_reducible refine Kd.C_drewN ?_ _) | (with_reducible refine Kd.C_drew ?_))); (case side6 => exact HC1.out); rintro e w28 ⟨rfl, hb⟩; replace BK925 := Aside0.mk (blk_below (uK BK925.out) hb); replace HB := Aside0.mk (below_step uB hb); (try clear hb); (try clear hb2); (try clear hk); (try clear hi)) | (go_at_call 29; (with_reducible refine (quinariaref02_Need.calls a2 true _ A20.out).mono ?_); rintro e w' ⟨rfl, ⟨nd, rfl⟩⟩; (try first | exact ⟨rfl, _, World.drewN_drewN _ _ _⟩ | exact ⟨rfl, _, Eq.trans (World.drewN_drewN _ _ _) (congrArg (World.drewN _) (Nat.add_assoc _ _ _))⟩)) | (go_at_call 33; (with_reducible refine (quinariaref02_Until.calls a3 t930 _ A22.out).mono ?_); rintro e w' ⟨rfl, ⟨nd, rfl⟩⟩; (try first | exact ⟨rfl, _, World.drewN_drewN _ _ _⟩ | exact ⟨rfl, _, Eq.trans (World.drewN_drewN _ _ _) (congrArg (World.drewN _) (Nat.add_assoc _ _ _))⟩))))
        go_meet
        case rel => exact ⟨_, (!t930), u0, H', ⟨u1⟩, ⟨uK BK925.out⟩, ⟨uB⟩⟩
       ·replace c21 := Bool.eq_false_iff.mpr c21
        subst c21
        have H1 : (quinarialaw02_ChannelBetter.j0 k l1 a2 a3 l4 true l0_0 l0_1) = some r := by rw [if_neg (show ¬ (false = true) by decide)] at H; exact H
        clear H
        have H := H1
        clear H1
        have H' := Aside0.mk H
        clear H
        obtain ⟨hcz29_0, hcz29_1⟩ := cz2 BK925.out
        obtain ⟨hfz29_0, hfz29_1⟩ := fz2 BK925.out
        go_wp2_with (first | (go_at_call 13; (with_reducible refine (quinarialaw02_short.calls _ _ l0_0 _ _ l0_1 true _ ?side1 ?side2 ?side3 ?side4 A8.out).mono ?_); (case side1 => repeat (first | exact (Kd.C_below HR0_0.out HB.out) | (with_reducible refine Kd.C_alloc ?_ _) | (with_reducible refine Kd.C_drewN ?_ _) | (with_reducible refine Kd.C_drew ?_))); (case side2 => exact HC0_0.out); (case side3 => repeat (first | exact (Kd.C_below HR0_1.out HB.out) | (with_reducible refine Kd.C_alloc ?_ _) | (with_reducible refine Kd.C_drewN ?_ _) | (with_reducible refine Kd.C_drew ?_))); (case side4 => exact HC0_1.out); rintro e w30 ⟨rfl, hb⟩; replace BK925 := Aside0.mk (blk_below (uK BK925.out) hb); replace HB := Aside0.mk (below_step uB hb); (try clear hb); (try clear hb2); (try clear hk); (try clear hi); obtain ⟨hcz31_0, hcz31_1⟩ := cz2 BK925.out; obtain ⟨hfz31_0, hfz31_1⟩ := fz2 BK925.out) | (go_at_call 14; (with_reducible refine (quinariaref02_Right.calls k _ _ l0_0 _ _ l0_1 true _ ?side1 ?side2 ?side3 ?side4 A16.out).mono ?_); (case side1 => repeat (first | exact (Kd.C_below HR0_0.out HB.out) | (with_reducible refine Kd.C_alloc ?_ _) | (with_reducible refine Kd.C_drewN ?_ _) | (with_reducible refine Kd.C_drew ?_))); (case side2 => exact HC0_0.out); (case side3 => repeat (first | exact (Kd.C_below HR0_1.out HB.out) | (with_reducible refine Kd.C_alloc ?_ _) | (with_reducible refine Kd.C_drewN ?_ _) | (with_reducible refine Kd.C_drew ?_))); (case side4 => exact HC0_1.out); rintro e w32 ⟨rfl, hb⟩; replace BK925 := Aside0.mk (blk_below (uK BK925.out) hb); replace HB := Aside0.mk (below_step uB hb); (try clear hb); (try clear hb2); (try clear hk); (try clear hi); obtain ⟨hcz33_0, hcz33_1⟩ := cz2 BK925.out; obtain ⟨hfz33_0, hfz33_1⟩ := fz2 BK925.out) | (go_at_call 22; (with_reducible refine (quinariaref02_Ages.calls k _ _ l0_0 _ _ l0_1 _ _ l1 true _ ?side1 ?side2 ?side3 ?side4 ?side5 ?side6 A18.out).mono ?_); (case side1 => repeat (first | exact (Kd.C_below HR0_0.out HB.out) | (with_reducible refine Kd.C_alloc ?_ _) | (with_reducible refine Kd.C_drewN ?_ _) | (with_reducible refine Kd.C_drew ?_))); (case side2 => exact HC0_0.out); (case side3 => repeat (first | exact (Kd.C_below HR0_1.out HB.out) | (with_reducible refine Kd.C_alloc ?_ _) | (with_reducible refine Kd.C_drewN ?_ _) | (with_reducible refine Kd.C_drew ?_))); (case side4 => exact HC0_1.out); (case side5 => repeat (first | exact (Kd.C_below HR1.out HB.out) | (with_reducible refine Kd.C_alloc ?_ _) | (with_reducible refine Kd.C_drewN ?_ _) | (with_reducible refine Kd.C_drew ?_))); (case side6 => exact HC1.out); rintro e w34 ⟨rfl, hb⟩; replace BK925 := Aside0.mk (blk_below (uK BK925.out) hb); replace HB := Aside0.mk (below_step uB hb); (try clear hb); (try clear hb2); (try clear hk); (try clear hi)) | (go_at_call 29; (with_reducible refine (quinariaref02_Need.calls a2 false _ A20.out).mono ?_); rintro e w' ⟨rfl, ⟨nd, rfl⟩⟩; (try first | exact ⟨rfl, _, World.drewN_drewN _ _ _⟩ | exact ⟨rfl, _, Eq.trans (World.drewN_drewN _ _ _) (congrArg (World.drewN _) (Nat.add_assoc _ _ _))⟩)))
        repeat (go_quiet (first | (go_at_call 13; (with_reducible refine (quinarialaw02_short.calls _ _ l0_0 _ _ l0_1 true _ ?side1 ?side2 ?side3 ?side4 A8.out).mono ?_); (case side1 => repeat (first | exact (Kd.C_below HR0_0.out HB.out) | (with_reducible refine Kd.C_alloc ?_ _) | (with_reducible refine Kd.C_drewN ?_ _) | (with_reducible refine Kd.C_drew ?_))); (case side2 => exact HC0_0.out); (case side3 => repeat (first | exact (Kd.C_below HR0_1.out HB.out) | (with_reducible refine Kd.C_alloc ?_ _) | (with_reducible refine Kd.C_drewN ?_ _) | (with_reducible refine Kd.C_drew ?_))); (case side4 => exact HC0_1.out); rintro e w30 ⟨rfl, hb⟩; replace BK925 := Aside0.mk (blk_below (uK BK925.out) hb); replace HB := Aside0.mk (below_step uB hb); (try clear hb); (try clear hb2); (try clear hk); (try clear hi); obtain ⟨hcz31_0, hcz31_1⟩ := cz2 BK925.out; obtain ⟨hfz31_0, hfz31_1⟩ := fz2 BK925.out) | (go_at_call 14; (with_reducible refine (quinariaref02_Right.calls k _ _ l0_0 _ _ l0_1 true _ ?side1 ?side2 ?side3 ?side4 A16.out).mono ?_); (case side1 => repeat (first | exact (Kd.C_below HR0_0.out HB.out) | (with_reducible refine Kd.C_alloc ?_ _) | (with_reducible refine Kd.C_drewN ?_ _) | (with_reducible refine Kd.C_drew ?_))); (case side2 => exact HC0_0.out); (case side3 => repeat (first | exact (Kd.C_below HR0_1.out HB.out) | (with_reducible refine Kd.C_alloc ?_ _) | (with_reducible refine Kd.C_drewN ?_ _) | (with_reducible refine Kd.C_drew ?_))); (case side4 => exact HC0_1.out); rintro e w32 ⟨rfl, hb⟩; replace BK925 := Aside0.mk (blk_below (uK BK925.out) hb); replace HB := Aside0.mk (below_step uB hb); (try clear hb); (try clear hb2); (try clear hk); (try clear hi); obtain ⟨hcz33_0, hcz33_1⟩ := cz2 BK925.out; obtain ⟨hfz33_0, hfz33_1⟩ := fz2 BK925.out) | (go_at_call 22; (with_reducible refine (quinariaref02_Ages.calls k _ _ l0_0 _ _ l0_1 _ _ l1 true _ ?side1 ?side2 ?side3 ?side4 ?side5 ?side6 A18.out).mono ?_); (case side1 => repeat (first | exact (Kd.C_below HR0_0.out HB.out) | (with_reducible refine Kd.C_alloc ?_ _) | (with_reducible refine Kd.C_drewN ?_ _) | (with_reducible refine Kd.C_drew ?_))); (case side2 => exact HC0_0.out); (case side3 => repeat (first | exact (Kd.C_below HR0_1.out HB.out) | (with_reducible refine Kd.C_alloc ?_ _) | (with_reducible refine Kd.C_drewN ?_ _) | (with_reducible refine Kd.C_drew ?_))); (case side4 => exact HC0_1.out); (case side5 => repeat (first | exact (Kd.C_below HR1.out HB.out) | (with_reducible refine Kd.C_alloc ?_ _) | (with_reducible refine Kd.C_drewN ?_ _) | (with_reducible refine Kd.C_drew ?_))); (case side6 => exact HC1.out); rintro e w34 ⟨rfl, hb⟩; replace BK925 := Aside0.mk (blk_below (uK BK925.out) hb); replace HB := Aside0.mk (below_step uB hb); (try clear hb); (try clear hb2); (try clear hk); (try clear hi)) | (go_at_call 29; (with_reducible refine (quinariaref02_Need.calls a2 false _ A20.out).mono ?_); rintro e w' ⟨rfl, ⟨nd, rfl⟩⟩; (try first | exact ⟨rfl, _, World.drewN_drewN _ _ _⟩ | exact ⟨rfl, _, Eq.trans (World.drewN_drewN _ _ _) (congrArg (World.drewN _) (Nat.add_assoc _ _ _))⟩))); try go_wp2_with (first | (go_at_call 13; (with_reducible refine (quinarialaw02_short.calls _ _ l0_0 _ _ l0_1 true _ ?side1 ?side2 ?side3 ?side4 A8.out).mono ?_); (case side1 => repeat (first | exact (Kd.C_below HR0_0.out HB.out) | (with_reducible refine Kd.C_alloc ?_ _) | (with_reducible refine Kd.C_drewN ?_ _) | (with_reducible refine Kd.C_drew ?_))); (case side2 => exact HC0_0.out); (case side3 => repeat (first | exact (Kd.C_below HR0_1.out HB.out) | (with_reducible refine Kd.C_alloc ?_ _) | (with_reducible refine Kd.C_drewN ?_ _) | (with_reducible refine Kd.C_drew ?_))); (case side4 => exact HC0_1.out); rintro e w30 ⟨rfl, hb⟩; replace BK925 := Aside0.mk (blk_below (uK BK925.out) hb); replace HB := Aside0.mk (below_step uB hb); (try clear hb); (try clear hb2); (try clear hk); (try clear hi); obtain ⟨hcz31_0, hcz31_1⟩ := cz2 BK925.out; obtain ⟨hfz31_0, hfz31_1⟩ := fz2 BK925.out) | (go_at_call 14; (with_reducible refine (quinariaref02_Right.calls k _ _ l0_0 _ _ l0_1 true _ ?side1 ?side2 ?side3 ?side4 A16.out).mono ?_); (case side1 => repeat (first | exact (Kd.C_below HR0_0.out HB.out) | (with_reducible refine Kd.C_alloc ?_ _) | (with_reducible refine Kd.C_drewN ?_ _) | (with_reducible refine Kd.C_drew ?_))); (case side2 => exact HC0_0.out); (case side3 => repeat (first | exact (Kd.C_below HR0_1.out HB.out) | (with_reducible refine Kd.C_alloc ?_ _) | (with_reducible refine Kd.C_drewN ?_ _) | (with_reducible refine Kd.C_drew ?_))); (case side4 => exact HC0_1.out); rintro e w32 ⟨rfl, hb⟩; replace BK925 := Aside0.mk (blk_below (uK BK925.out) hb); replace HB := Aside0.mk (below_step uB hb); (try clear hb); (try clear hb2); (try clear hk); (try clear hi); obtain ⟨hcz33_0, hcz33_1⟩ := cz2 BK925.out; obtain ⟨hfz33_0, hfz33_1⟩ := fz2 BK925.out) | (go_at_call 22; (with_reducible refine (quinariaref02_Ages.calls k _ _ l0_0 _ _ l0_1 _ _ l1 true _ ?side1 ?side2 ?side3 ?side4 ?side5 ?side6 A18.out).mono ?_); (case side1 => repeat (first | exact (Kd.C_below HR0_0.out HB.out) | (with_reducible refine Kd.C_alloc ?_ _) | (with_reducible refine Kd.C_drewN ?_ _) | (with_reducible refine Kd.C_drew ?_))); (case side2 => exact HC0_0.out); (case side3 => repeat (first | exact (Kd.C_below HR0_1.out HB.out) | (with_reducible refine Kd.C_alloc ?_ _) | (with_reducible refine Kd.C_drewN ?_ _) | (with_reducible refine Kd.C_drew ?_))); (case side4 => exact HC0_1.out); (case side5 => repeat (first | exact (Kd.C_below HR1.out HB.out) | (with_reducible refine Kd.C_alloc ?_ _) | (with_reducible refine Kd.C_drewN ?_ _) | (with_reducible refine Kd.C_drew ?_))); (case side6 => exact HC1.out); rintro e w34 ⟨rfl, hb⟩; replace BK925 := Aside0.mk (blk_below (uK BK925.out) hb); replace HB := Aside0.mk (below_step uB hb); (try clear hb); (try clear hb2); (try clear hk); (try clear hi)) | (go_at_call 29; (with_reducible refine (quinariaref02_Need.calls a2 false _ A20.out).mono ?_); rintro e w' ⟨rfl, ⟨nd, rfl⟩⟩; (try first | exact ⟨rfl, _, World.drewN_drewN _ _ _⟩ | exact ⟨rfl, _, Eq.trans (World.drewN_drewN _ _ _) (congrArg (World.drewN _) (Nat.add_assoc _ _ _))⟩))))
        go_meet
        case rel => exact ⟨_, (true), u0, H', ⟨u1⟩, ⟨uK BK925.out⟩, ⟨uB⟩⟩
      ·replace c19 := Bool.eq_false_iff.mpr c19
       subst c19
       have H1 : (quinarialaw02_ChannelBetter.j0 k l1 a2 a3 l4 true l0_0 l0_1) = some r := by rw [if_neg (show ¬ (false = true) by decide)] at H; exact H
       clear H
       have H := H1
       clear H1
       have H' := Aside0.mk H
       clear H
       obtain ⟨hcz35_0, hcz35_1⟩ := cz2 BK925.out
       obtain ⟨hfz35_0, hfz35_1⟩ := fz2 BK925.out
       go_wp2_with (first | (go_at_call 13; (with_reducible refine (quinarialaw02_short.calls _ _ l0_0 _ _ l0_1 true _ ?side1 ?side2 ?side3 ?side4 A8.out).mono ?_); (case side1 => repeat (first | exact (Kd.C_below HR0_0.out HB.out) | (with_reducible refine Kd.C_alloc ?_ _) | (with_reducible refine Kd.C_drewN ?_ _) | (with_reducible refine Kd.C_drew ?_))); (case side2 => exact HC0_0.out); (case side3 => repeat (first | exact (Kd.C_below HR0_1.out HB.out) | (with_reducible refine Kd.C_alloc ?_ _) | (with_reducible refine Kd.C_drewN ?_ _) | (with_reducible refine Kd.C_drew ?_))); (case side4 => exact HC0_1.out); rintro e w36 ⟨rfl, hb⟩; replace BK925 := Aside0.mk (blk_below (uK BK925.out) hb); replace HB := Aside0.mk (below_step uB hb); (try clear hb); (try clear hb2); (try clear hk); (try clear hi); obtain ⟨hcz37_0, hcz37_1⟩ := cz2 BK925.out; obtain ⟨hfz37_0, hfz37_1⟩ := fz2 BK925.out) | (go_at_call 14; (with_reducible refine (quinariaref02_Right.calls k _ _ l0_0 _ _ l0_1 true _ ?side1 ?side2 ?side3 ?side4 A16.out).mono ?_); (case side1 => repeat (first | exact (Kd.C_below HR0_0.out HB.out) | (with_reducible refine Kd.C_alloc ?_ _) | (with_reducible refine Kd.C_drewN ?_ _) | (with_reducible refine Kd.C_drew ?_))); (case side2 => exact HC0_0.out); (case side3 => repeat (first | exact (Kd.C_below HR0_1.out HB.out) | (with_reducible refine Kd.C_alloc ?_ _) | (with_reducible refine Kd.C_drewN ?_ _) | (with_reducible refine Kd.C_drew ?_))); (case side4 => exact HC0_1.out); rintro e w38 ⟨rfl, hb⟩; replace BK925 := Aside0.mk (blk_below (uK BK925.out) hb); replace HB := Aside0.mk (below_step uB hb); (try clear hb); (try clear hb2); (try clear hk); (try clear hi); obtain ⟨hcz39_0, hcz39_1⟩ := cz2 BK925.out; obtain ⟨hfz39_0, hfz39_1⟩ := fz2 BK925.out) | (go_at_call 22; (with_reducible refine (quinariaref02_Ages.calls k _ _ l0_0 _ _ l0_1 _ _ l1 false _ ?side1 ?side2 ?side3 ?side4 ?side5 ?side6 A18.out).mono ?_); (case side1 => repeat (first | exact (Kd.C_below HR0_0.out HB.out) | (with_reducible refine Kd.C_alloc ?_ _) | (with_reducible refine Kd.C_drewN ?_ _) | (with_reducible refine Kd.C_drew ?_))); (case side2 => exact HC0_0.out); (case side3 => repeat (first | exact (Kd.C_below HR0_1.out HB.out) | (with_reducible refine Kd.C_alloc ?_ _) | (with_reducible refine Kd.C_drewN ?_ _) | (with_reducible refine Kd.C_drew ?_))); (case side4 => exact HC0_1.out); (case side5 => repeat (first | exact (Kd.C_below HR1.out HB.out) | (with_reducible refine Kd.C_alloc ?_ _) | (with_reducible refine Kd.C_drewN ?_ _) | (with_reducible refine Kd.C_drew ?_))); (case side6 => exact HC1.out); rintro e w40 ⟨rfl, hb⟩; replace BK925 := Aside0.mk (blk_below (uK BK925.out) hb); replace HB := Aside0.mk (below_step uB hb); (try clear hb); (try clear hb2); (try clear hk); (try clear hi)))
       repeat (go_quiet (first | (go_at_call 13; (with_reducible refine (quinarialaw02_short.calls _ _ l0_0 _ _ l0_1 true _ ?side1 ?side2 ?side3 ?side4 A8.out).mono ?_); (case side1 => repeat (first | exact (Kd.C_below HR0_0.out HB.out) | (with_reducible refine Kd.C_alloc ?_ _) | (with_reducible refine Kd.C_drewN ?_ _) | (with_reducible refine Kd.C_drew ?_))); (case side2 => exact HC0_0.out); (case side3 => repeat (first | exact (Kd.C_below HR0_1.out HB.out) | (with_reducible refine Kd.C_alloc ?_ _) | (with_reducible refine Kd.C_drewN ?_ _) | (with_reducible refine Kd.C_drew ?_))); (case side4 => exact HC0_1.out); rintro e w36 ⟨rfl, hb⟩; replace BK925 := Aside0.mk (blk_below (uK BK925.out) hb); replace HB := Aside0.mk (below_step uB hb); (try clear hb); (try clear hb2); (try clear hk); (try clear hi); obtain ⟨hcz37_0, hcz37_1⟩ := cz2 BK925.out; obtain ⟨hfz37_0, hfz37_1⟩ := fz2 BK925.out) | (go_at_call 14; (with_reducible refine (quinariaref02_Right.calls k _ _ l0_0 _ _ l0_1 true _ ?side1 ?side2 ?side3 ?side4 A16.out).mono ?_); (case side1 => repeat (first | exact (Kd.C_below HR0_0.out HB.out) | (with_reducible refine Kd.C_alloc ?_ _) | (with_reducible refine Kd.C_drewN ?_ _) | (with_reducible refine Kd.C_drew ?_))); (case side2 => exact HC0_0.out); (case side3 => repeat (first | exact (Kd.C_below HR0_1.out HB.out) | (with_reducible refine Kd.C_alloc ?_ _) | (with_reducible refine Kd.C_drewN ?_ _) | (with_reducible refine Kd.C_drew ?_))); (case side4 => exact HC0_1.out); rintro e w38 ⟨rfl, hb⟩; replace BK925 := Aside0.mk (blk_below (uK BK925.out) hb); replace HB := Aside0.mk (below_step uB hb); (try clear hb); (try clear hb2); (try clear hk); (try clear hi); obtain ⟨hcz39_0, hcz39_1⟩ := cz2 BK925.out; obtain ⟨hfz39_0, hfz39_1⟩ := fz2 BK925.out) | (go_at_call 22; (with_reducible refine (quinariaref02_Ages.calls k _ _ l0_0 _ _ l0_1 _ _ l1 false _ ?side1 ?side2 ?side3 ?side4 ?side5 ?side6 A18.out).mono ?_); (case side1 => repeat (first | exact (Kd.C_below HR0_0.out HB.out) | (with_reducible refine Kd.C_alloc ?_ _) | (with_reducible refine Kd.C_drewN ?_ _) | (with_reducible refine Kd.C_drew ?_))); (case side2 => exact HC0_0.out); (case side3 => repeat (first | exact (Kd.C_below HR0_1.out HB.out) | (with_reducible refine Kd.C_alloc ?_ _) | (with_reducible refine Kd.C_drewN ?_ _) | (with_reducible refine Kd.C_drew ?_))); (case side4 => exact HC0_1.out); (case side5 => repeat (first | exact (Kd.C_below HR1.out HB.out) | (with_reducible refine Kd.C_alloc ?_ _) | (with_reducible refine Kd.C_drewN ?_ _) | (with_reducible refine Kd.C_drew ?_))); (case side6 => exact HC1.out); rintro e w40 ⟨rfl, hb⟩; replace BK925 := Aside0.mk (blk_below (uK BK925.out) hb); replace HB := Aside0.mk (below_step uB hb); (try clear hb); (try clear hb2); (try clear hk); (try clear hi))); try go_wp2_with (first | (go_at_call 13; (with_reducible refine (quinarialaw02_short.calls _ _ l0_0 _ _ l0_1 true _ ?side1 ?side2 ?side3 ?side4 A8.out).mono ?_); (case side1 => repeat (first | exact (Kd.C_below HR0_0.out HB.out) | (with_reducible refine Kd.C_alloc ?_ _) | (with_reducible refine Kd.C_drewN ?_ _) | (with_reducible refine Kd.C_drew ?_))); (case side2 => exact HC0_0.out); (case side3 => repeat (first | exact (Kd.C_below HR0_1.out HB.out) | (with_reducible refine Kd.C_alloc ?_ _) | (with_reducible refine Kd.C_drewN ?_ _) | (with_reducible refine Kd.C_drew ?_))); (case side4 => exact HC0_1.out); rintro e w36 ⟨rfl, hb⟩; replace BK925 := Aside0.mk (blk_below (uK BK925.out) hb); replace HB := Aside0.mk (below_step uB hb); (try clear hb); (try clear hb2); (try clear hk); (try clear hi); obtain ⟨hcz37_0, hcz37_1⟩ := cz2 BK925.out; obtain ⟨hfz37_0, hfz37_1⟩ := fz2 BK925.out) | (go_at_call 14; (with_reducible refine (quinariaref02_Right.calls k _ _ l0_0 _ _ l0_1 true _ ?side1 ?side2 ?side3 ?side4 A16.out).mono ?_); (case side1 => repeat (first | exact (Kd.C_below HR0_0.out HB.out) | (with_reducible refine Kd.C_alloc ?_ _) | (with_reducible refine Kd.C_drewN ?_ _) | (with_reducible refine Kd.C_drew ?_))); (case side2 => exact HC0_0.out); (case side3 => repeat (first | exact (Kd.C_below HR0_1.out HB.out) | (with_reducible refine Kd.C_alloc ?_ _) | (with_reducible refine Kd.C_drewN ?_ _) | (with_reducible refine Kd.C_drew ?_))); (case side4 => exact HC0_1.out); rintro e w38 ⟨rfl, hb⟩; replace BK925 := Aside0.mk (blk_below (uK BK925.out) hb); replace HB := Aside0.mk (below_step uB hb); (try clear hb); (try clear hb2); (try clear hk); (try clear hi); obtain ⟨hcz39_0, hcz39_1⟩ := cz2 BK925.out; obtain ⟨hfz39_0, hfz39_1⟩ := fz2 BK925.out) | (go_at_call 22; (with_reducible refine (quinariaref02_Ages.calls k _ _ l0_0 _ _ l0_1 _ _ l1 false _ ?side1 ?side2 ?side3 ?side4 ?side5 ?side6 A18.out).mono ?_); (case side1 => repeat (first | exact (Kd.C_below HR0_0.out HB.out) | (with_reducible refine Kd.C_alloc ?_ _) | (with_reducible refine Kd.C_drewN ?_ _) | (with_reducible refine Kd.C_drew ?_))); (case side2 => exact HC0_0.out); (case side3 => repeat (first | exact (Kd.C_below HR0_1.out HB.out) | (with_reducible refine Kd.C_alloc ?_ _) | (with_reducible refine Kd.C_drewN ?_ _) | (with_reducible refine Kd.C_drew ?_))); (case side4 => exact HC0_1.out); (case side5 => repeat (first | exact (Kd.C_below HR1.out HB.out) | (with_reducible refine Kd.C_alloc ?_ _) | (with_reducible refine Kd.C_drewN ?_ _) | (with_reducible refine Kd.C_drew ?_))); (case side6 => exact HC1.out); rintro e w40 ⟨rfl, hb⟩; replace BK925 := Aside0.mk (blk_below (uK BK925.out) hb); replace HB := Aside0.mk (below_step uB hb); (try clear hb); (try clear hb2); (try clear hk); (try clear hi))))
       go_meet
       case rel => exact ⟨_, (true), u0, H', ⟨u1⟩, ⟨uK BK925.out⟩, ⟨uB⟩⟩
     ·replace c17 := Bool.eq_false_iff.mpr c17
      subst c17
      have H1 : (quinarialaw02_ChannelBetter.j0 k l1 a2 a3 l4 true l0_0 l0_1) = some r := by rw [if_neg (show ¬ (false = true) by decide)] at H; exact H
      clear H
      have H := H1
      clear H1
      have H' := Aside0.mk H
      clear H
      obtain ⟨hcz41_0, hcz41_1⟩ := cz2 BK925.out
      obtain ⟨hfz41_0, hfz41_1⟩ := fz2 BK925.out
      go_wp2_with (first | (go_at_call 13; (with_reducible refine (quinarialaw02_short.calls _ _ l0_0 _ _ l0_1 true _ ?side1 ?side2 ?side3 ?side4 A8.out).mono ?_); (case side1 => repeat (first | exact (Kd.C_below HR0_0.out HB.out) | (with_reducible refine Kd.C_alloc ?_ _) | (with_reducible refine Kd.C_drewN ?_ _) | (with_reducible refine Kd.C_drew ?_))); (case side2 => exact HC0_0.out); (case side3 => repeat (first | exact (Kd.C_below HR0_1.out HB.out) | (with_reducible refine Kd.C_alloc ?_ _) | (with_reducible refine Kd.C_drewN ?_ _) | (with_reducible refine Kd.C_drew ?_))); (case side4 => exact HC0_1.out); rintro e w42 ⟨rfl, hb⟩; replace BK925 := Aside0.mk (blk_below (uK BK925.out) hb); replace HB := Aside0.mk (below_step uB hb); (try clear hb); (try clear hb2); (try clear hk); (try clear hi); obtain ⟨hcz43_0, hcz43_1⟩ := cz2 BK925.out; obtain ⟨hfz43_0, hfz43_1⟩ := fz2 BK925.out) | (go_at_call 14; (with_reducible refine (quinariaref02_Right.calls k _ _ l0_0 _ _ l0_1 false _ ?side1 ?side2 ?side3 ?side4 A16.out).mono ?_); (case side1 => repeat (first | exact (Kd.C_below HR0_0.out HB.out) | (with_reducible refine Kd.C_alloc ?_ _) | (with_reducible refine Kd.C_drewN ?_ _) | (with_reducible refine Kd.C_drew ?_))); (case side2 => exact HC0_0.out); (case side3 => repeat (first | exact (Kd.C_below HR0_1.out HB.out) | (with_reducible refine Kd.C_alloc ?_ _) | (with_reducible refine Kd.C_drewN ?_ _) | (with_reducible refine Kd.C_drew ?_))); (case side4 => exact HC0_1.out); rintro e w44 ⟨rfl, hb⟩; replace BK925 := Aside0.mk (blk_below (uK BK925.out) hb); replace HB := Aside0.mk (below_step uB hb); (try clear hb); (try clear hb2); (try clear hk); (try clear hi)))
      repeat (go_quiet (first | (go_at_call 13; (with_reducible refine (quinarialaw02_short.calls _ _ l0_0 _ _ l0_1 true _ ?side1 ?side2 ?side3 ?side4 A8.out).mono ?_); (case side1 => repeat (first | exact (Kd.C_below HR0_0.out HB.out) | (with_reducible refine Kd.C_alloc ?_ _) | (with_reducible refine Kd.C_drewN ?_ _) | (with_reducible refine Kd.C_drew ?_))); (case side2 => exact HC0_0.out); (case side3 => repeat (first | exact (Kd.C_below HR0_1.out HB.out) | (with_reducible refine Kd.C_alloc ?_ _) | (with_reducible refine Kd.C_drewN ?_ _) | (with_reducible refine Kd.C_drew ?_))); (case side4 => exact HC0_1.out); rintro e w42 ⟨rfl, hb⟩; replace BK925 := Aside0.mk (blk_below (uK BK925.out) hb); replace HB := Aside0.mk (below_step uB hb); (try clear hb); (try clear hb2); (try clear hk); (try clear hi); obtain ⟨hcz43_0, hcz43_1⟩ := cz2 BK925.out; obtain ⟨hfz43_0, hfz43_1⟩ := fz2 BK925.out) | (go_at_call 14; (with_reducible refine (quinariaref02_Right.calls k _ _ l0_0 _ _ l0_1 false _ ?side1 ?side2 ?side3 ?side4 A16.out).mono ?_); (case side1 => repeat (first | exact (Kd.C_below HR0_0.out HB.out) | (with_reducible refine Kd.C_alloc ?_ _) | (with_reducible refine Kd.C_drewN ?_ _) | (with_reducible refine Kd.C_drew ?_))); (case side2 => exact HC0_0.out); (case side3 => repeat (first | exact (Kd.C_below HR0_1.out HB.out) | (with_reducible refine Kd.C_alloc ?_ _) | (with_reducible refine Kd.C_drewN ?_ _) | (with_reducible refine Kd.C_drew ?_))); (case side4 => exact HC0_1.out); rintro e w44 ⟨rfl, hb⟩; replace BK925 := Aside0.mk (blk_below (uK BK925.out) hb); replace HB := Aside0.mk (below_step uB hb); (try clear hb); (try clear hb2); (try clear hk); (try clear hi))); try go_wp2_with (first | (go_at_call 13; (with_reducible refine (quinarialaw02_short.calls _ _ l0_0 _ _ l0_1 true _ ?side1 ?side2 ?side3 ?side4 A8.out).mono ?_); (case side1 => repeat (first | exact (Kd.C_below HR0_0.out HB.out) | (with_reducible refine Kd.C_alloc ?_ _) | (with_reducible refine Kd.C_drewN ?_ _) | (with_reducible refine Kd.C_drew ?_))); (case side2 => exact HC0_0.out); (case side3 => repeat (first | exact (Kd.C_below HR0_1.out HB.out) | (with_reducible refine Kd.C_alloc ?_ _) | (with_reducible refine Kd.C_drewN ?_ _) | (with_reducible refine Kd.C_drew ?_))); (case side4 => exact HC0_1.out); rintro e w42 ⟨rfl, hb⟩; replace BK925 := Aside0.mk (blk_below (uK BK925.out) hb); replace HB := Aside0.mk (below_step uB hb); (try clear hb); (try clear hb2); (try clear hk); (try clear hi); obtain ⟨hcz43_0, hcz43_1⟩ := cz2 BK925.out; obtain ⟨hfz43_0, hfz43_1⟩ := fz2 BK925.out) | (go_at_call 14; (with_reducible refine (quinariaref02_Right.calls k _ _ l0_0 _ _ l0_1 false _ ?side1 ?side2 ?side3 ?side4 A16.out).mono ?_); (case side1 => repeat (first | exact (Kd.C_below HR0_0.out HB.out) | (with_reducible refine Kd.C_alloc ?_ _) | (with_reducible refine Kd.C_drewN ?_ _) | (with_reducible refine Kd.C_drew ?_))); (case side2 => exact HC0_0.out); (case side3 => repeat (first | exact (Kd.C_below HR0_1.out HB.out) | (with_reducible refine Kd.C_alloc ?_ _) | (with_reducible refine Kd.C_drewN ?_ _) | (with_reducible refine Kd.C_drew ?_))); (case side4 => exact HC0_1.out); rintro e w44 ⟨rfl, hb⟩; replace BK925 := Aside0.mk (blk_below (uK BK925.out) hb); replace HB := Aside0.mk (below_step uB hb); (try clear hb); (try clear hb2); (try clear hk); (try clear hi))))
      go_meet
      case rel => exact ⟨_, (true), u0, H', ⟨u1⟩, ⟨uK BK925.out⟩, ⟨uB⟩⟩
  ·replace c9 := Bool.eq_false_iff.mpr c9
   subst c9
   have H1 : (quinarialaw02_ChannelBetter.j0 k l1 a2 a3 l4 true l0_0 l0_1) = some r := by rw [if_neg (show ¬ (false = true) by decide)] at H; exact H
   clear H
   have H := H1
   clear H1
   have H' := Aside0.mk H
   clear H
   obtain ⟨hcz45_0, hcz45_1⟩ := cz2 BK925.out
   obtain ⟨hfz45_0, hfz45_1⟩ := fz2 BK925.out
   go_wp2_with (first | (go_at_call 13; (with_reducible refine (quinarialaw02_short.calls _ _ l0_0 _ _ l0_1 false _ ?side1 ?side2 ?side3 ?side4 A8.out).mono ?_); (case side1 => repeat (first | exact (Kd.C_below HR0_0.out HB.out) | (with_reducible refine Kd.C_alloc ?_ _) | (with_reducible refine Kd.C_drewN ?_ _) | (with_reducible refine Kd.C_drew ?_))); (case side2 => exact HC0_0.out); (case side3 => repeat (first | exact (Kd.C_below HR0_1.out HB.out) | (with_reducible refine Kd.C_alloc ?_ _) | (with_reducible refine Kd.C_drewN ?_ _) | (with_reducible refine Kd.C_drew ?_))); (case side4 => exact HC0_1.out); rintro e w46 ⟨rfl, hb⟩; replace BK925 := Aside0.mk (blk_below (uK BK925.out) hb); replace HB := Aside0.mk (below_step uB hb); (try clear hb); (try clear hb2); (try clear hk); (try clear hi)))
   repeat (go_quiet (first | (go_at_call 13; (with_reducible refine (quinarialaw02_short.calls _ _ l0_0 _ _ l0_1 false _ ?side1 ?side2 ?side3 ?side4 A8.out).mono ?_); (case side1 => repeat (first | exact (Kd.C_below HR0_0.out HB.out) | (with_reducible refine Kd.C_alloc ?_ _) | (with_reducible refine Kd.C_drewN ?_ _) | (with_reducible refine Kd.C_drew ?_))); (case side2 => exact HC0_0.out); (case side3 => repeat (first | exact (Kd.C_below HR0_1.out HB.out) | (with_reducible refine Kd.C_alloc ?_ _) | (with_reducible refine Kd.C_drewN ?_ _) | (with_reducible refine Kd.C_drew ?_))); (case side4 => exact HC0_1.out); rintro e w46 ⟨rfl, hb⟩; replace BK925 := Aside0.mk (blk_below (uK BK925.out) hb); replace HB := Aside0.mk (below_step uB hb); (try clear hb); (try clear hb2); (try clear hk); (try clear hi))); try go_wp2_with (first | (go_at_call 13; (with_reducible refine (quinarialaw02_short.calls _ _ l0_0 _ _ l0_1 false _ ?side1 ?side2 ?side3 ?side4 A8.out).mono ?_); (case side1 => repeat (first | exact (Kd.C_below HR0_0.out HB.out) | (with_reducible refine Kd.C_alloc ?_ _) | (with_reducible refine Kd.C_drewN ?_ _) | (with_reducible refine Kd.C_drew ?_))); (case side2 => exact HC0_0.out); (case side3 => repeat (first | exact (Kd.C_below HR0_1.out HB.out) | (with_reducible refine Kd.C_alloc ?_ _) | (with_reducible refine Kd.C_drewN ?_ _) | (with_reducible refine Kd.C_drew ?_))); (case side4 => exact HC0_1.out); rintro e w46 ⟨rfl, hb⟩; replace BK925 := Aside0.mk (blk_below (uK BK925.out) hb); replace HB := Aside0.mk (below_step uB hb); (try clear hb); (try clear hb2); (try clear hk); (try clear hi))))
   go_meet
   case rel => exact ⟨_, (true), u0, H', ⟨u1⟩, ⟨uK BK925.out⟩, ⟨uB⟩⟩
 case rest =>
  clear HC6; try clear c1; try clear c2; try clear p2; try clear c4; try clear c9; try clear c10; try clear c10b0; try clear c10b1; try clear c13; try clear c13b0; try clear c13b1; try clear c17; try clear c19; try clear c21; try clear hcz11_0; try clear hcz11_1; try clear hcz14_0; try clear hcz14_1; try clear hcz23_0; try clear hcz23_1; try clear hcz25_0; try clear hcz25_1; try clear hcz27_0; try clear hcz27_1; try clear hcz29_0; try clear hcz29_1; try clear hcz31_0; try clear hcz31_1; try clear hcz33_0; try clear hcz33_1; try clear hcz35_0; try clear hcz35_1; try clear hcz37_0; try clear hcz37_1; try clear hcz39_0; try clear hcz39_1; try clear hcz41_0; try clear hcz41_1; try clear hcz43_0; try clear hcz43_1; try clear hcz45_0; try clear hcz45_1; try clear hfz11_0; try clear hfz11_1; try clear hfz14_0; try clear hfz14_1; try clear hfz23_0; try clear hfz23_1; try clear hfz25_0; try clear hfz25_1; try clear hfz27_0; try clear hfz27_1; try clear hfz29_0; try clear hfz29_1; try clear hfz31_0; try clear hfz31_1; try clear hfz33_0; try clear hfz33_1; try clear hfz35_0; try clear hfz35_1; try clear hfz37_0; try clear hfz37_1; try clear hfz39_0; try clear hfz39_1; try clear hfz41_0; try clear hfz41_1; try clear hfz43_0; try clear hfz43_1; try clear hfz45_0; try clear hfz45_1
  obtain ⟨kq, x53_5, rfl, HA, HJ5, BK925, HB⟩ := hcut
  cases kq with
  | zero => exact absurd HA.out (by simp [quinarialaw02_ChannelBetter.j0])
  | succ kj5 =>
   have H := HA.out
   clear HA
   simp only [quinarialaw02_ChannelBetter.j0] at H
   by_cases c47 : x53_5 = true
   ·subst c47
    have H1 : ((quinarialaw02_known.f kj5).bind fun t931 => (some t931)) = some r := by rw [if_pos rfl] at H; exact H
    clear H
    have H := H1
    clear H1
    replace H := Option.bind_eq_some_iff.mp H
    obtain ⟨t931, A480, H⟩ := H
    replace H : (some t931) = some r := H
    have A48 := Aside0.mk A480
    clear A480
    obtain rfl := Option.some.inj H
    go_wp2_with (first | (go_at_call 17; (with_reducible refine (quinarialaw02_known.calls kj5  t931 _ ?sideT A48.out).mono ?_); (case sideT => exact HT.out.below uB); rintro e w49 ⟨rfl, hb⟩; replace BK925 := Aside0.mk (blk_below (uK BK925.out) hb); replace HB := Aside0.mk (below_step uB hb); (try clear hb); (try clear hb2); (try clear hk); (try clear hi)))
    repeat (go_quiet (first | (go_at_call 17; (with_reducible refine (quinarialaw02_known.calls kj5  t931 _ ?sideT A48.out).mono ?_); (case sideT => exact HT.out.below uB); rintro e w49 ⟨rfl, hb⟩; replace BK925 := Aside0.mk (blk_below (uK BK925.out) hb); replace HB := Aside0.mk (below_step uB hb); (try clear hb); (try clear hb2); (try clear hk); (try clear hi))); try go_wp2_with (first | (go_at_call 17; (with_reducible refine (quinarialaw02_known.calls kj5  t931 _ ?sideT A48.out).mono ?_); (case sideT => exact HT.out.below uB); rintro e w49 ⟨rfl, hb⟩; replace BK925 := Aside0.mk (blk_below (uK BK925.out) hb); replace HB := Aside0.mk (below_step uB hb); (try clear hb); (try clear hb2); (try clear hk); (try clear hi))))
    go_ret
    exact ⟨uE, uB⟩
   ·replace c47 := Bool.eq_false_iff.mpr c47
    subst c47
    have H1 : ((channel_Plan.f l0_0 l0_1 l1 a2 a3).bind fun bt932 => ((quinariaref02_Planned.f kj5 l0_0 l0_1 l1 a2 a3 l4).bind fun t936 => (if bt932.2 = 0 then (if (bt932.1.length : Int) = (l0_1.length : Int) then ((quinariaref02_Planned.f kj5 l0_0 l0_1 l1 a2 a3 bt932.1).bind fun t938 => (quinarialaw02_ChannelBetter.j1 kj5 l1 a2 l4 bt932.1 t936 (!t938) l0_0 l0_1)) else (quinarialaw02_ChannelBetter.j1 kj5 l1 a2 l4 bt932.1 t936 true l0_0 l0_1)) else (if bt932.2 = 5 then (if t936 = true then (some false) else ((quinarialaw02_known.f kj5).bind fun t937 => (some t937))) else (some false))))) = some r := by rw [if_neg (show ¬ (false = true) by decide)] at H; exact H
    clear H
    have H := H1
    clear H1
    replace H := Option.bind_eq_some_iff.mp H
    obtain ⟨⟨t932, t935⟩, A500, H⟩ := H
    replace H : ((quinariaref02_Planned.f kj5 l0_0 l0_1 l1 a2 a3 l4).bind fun t936 => (if t935 = 0 then (if (t932.length : Int) = (l0_1.length : Int) then ((quinariaref02_Planned.f kj5 l0_0 l0_1 l1 a2 a3 t932).bind fun t938 => (quinarialaw02_ChannelBetter.j1 kj5 l1 a2 l4 t932 t936 (!t938) l0_0 l0_1)) else (quinarialaw02_ChannelBetter.j1 kj5 l1 a2 l4 t932 t936 true l0_0 l0_1)) else (if t935 = 5 then (if t936 = true then (some false) else ((quinarialaw02_known.f kj5).bind fun t937 => (some t937))) else (some false)))) = some r := H
    have A50 := Aside0.mk A500
    clear A500
    replace H := Option.bind_eq_some_iff.mp H
    obtain ⟨t936, A510, H⟩ := H
    replace H : (if t935 = 0 then (if (t932.length : Int) = (l0_1.length : Int) then ((quinariaref02_Planned.f kj5 l0_0 l0_1 l1 a2 a3 t932).bind fun t938 => (quinarialaw02_ChannelBetter.j1 kj5 l1 a2 l4 t932 t936 (!t938) l0_0 l0_1)) else (quinarialaw02_ChannelBetter.j1 kj5 l1 a2 l4 t932 t936 true l0_0 l0_1)) else (if t935 = 5 then (if t936 = true then (some false) else ((quinarialaw02_known.f kj5).bind fun t937 => (some t937))) else (some false))) = some r := H
    have A51 := Aside0.mk A510
    clear A510
    by_cases c52 : t935 = 0
    ·rw [if_pos c52] at H
     have c52b0 : (t935 == 0) = true := beq_iff_eq.mpr c52
     have c52b1 : (t935 != 0) = false := bne_eq_false_iff_eq.mpr c52
     clear c52
     have HC53 := Aside0.mk H
     clear H
     obtain ⟨hcz54_0, hcz54_1⟩ := cz2 BK925.out
     obtain ⟨hfz54_0, hfz54_1⟩ := fz2 BK925.out
     go_upto_region 7 with (first | (go_at_call 32; (with_reducible refine (channel_Plan.calls _ _ l0_0 _ _ l0_1 _ _ l1 a2 a3 t932 t935 _ ?side1 ?side2 ?side3 ?side4 ?side5 ?side6 A50.out).mono ?_); (case side1 => repeat (first | exact (Kd.C_below HR0_0.out HB.out) | (with_reducible refine Kd.C_alloc ?_ _) | (with_reducible refine Kd.C_drewN ?_ _) | (with_reducible refine Kd.C_drew ?_))); (case side2 => exact HC0_0.out); (case side3 => repeat (first | exact (Kd.C_below HR0_1.out HB.out) | (with_reducible refine Kd.C_alloc ?_ _) | (with_reducible refine Kd.C_drewN ?_ _) | (with_reducible refine Kd.C_drew ?_))); (case side4 => exact HC0_1.out); (case side5 => repeat (first | exact (Kd.C_below HR1.out HB.out) | (with_reducible refine Kd.C_alloc ?_ _) | (with_reducible refine Kd.C_drewN ?_ _) | (with_reducible refine Kd.C_drew ?_))); (case side6 => exact HC1.out); rintro e w55 ⟨v933, rfl, ho0, hb⟩; have HO934 := Aside0.mk (Kd.R_lower ho0 (below_size uB)); replace BK925 := Aside0.mk (blk_below (uK BK925.out) hb); replace HB := Aside0.mk (below_step uB hb); (try clear hb); (try clear hb2); (try clear hk); (try clear hi); (try clear ho0); obtain ⟨hcz56_0, hcz56_1⟩ := cz2 BK925.out; obtain ⟨hfz56_0, hfz56_1⟩ := fz2 BK925.out) | (go_at_call 35; (with_reducible refine (quinariaref02_Planned.calls kj5 _ _ l0_0 _ _ l0_1 _ _ l1 a2 a3 _ _ l4 t936 _ ?side1 ?side2 ?side3 ?side4 ?side5 ?side6 ?side7 ?side8 A51.out).mono ?_); (case side1 => repeat (first | exact (Kd.C_below HR0_0.out HB.out) | (with_reducible refine Kd.C_alloc ?_ _) | (with_reducible refine Kd.C_drewN ?_ _) | (with_reducible refine Kd.C_drew ?_))); (case side2 => exact HC0_0.out); (case side3 => repeat (first | exact (Kd.C_below HR0_1.out HB.out) | (with_reducible refine Kd.C_alloc ?_ _) | (with_reducible refine Kd.C_drewN ?_ _) | (with_reducible refine Kd.C_drew ?_))); (case side4 => exact HC0_1.out); (case side5 => repeat (first | exact (Kd.C_below HR1.out HB.out) | (with_reducible refine Kd.C_alloc ?_ _) | (with_reducible refine Kd.C_drewN ?_ _) | (with_reducible refine Kd.C_drew ?_))); (case side6 => exact HC1.out); (case side7 => repeat (first | exact (Kd.C_below HR4.out HB.out) | (with_reducible refine Kd.C_alloc ?_ _) | (with_reducible refine Kd.C_drewN ?_ _) | (with_reducible refine Kd.C_drew ?_))); (case side8 => exact HC4.out); rintro e w57 ⟨rfl, hb⟩; replace HO934 := Aside0.mk (Kd.R_below (uR HO934.out) hb); replace BK925 := Aside0.mk (blk_below (uK BK925.out) hb); replace HB := Aside0.mk (below_step uB hb); (try clear hb); (try clear hb2); (try clear hk); (try clear hi)))
     repeat (go_quiet (first | (go_at_call 32; (with_reducible refine (channel_Plan.calls _ _ l0_0 _ _ l0_1 _ _ l1 a2 a3 t932 t935 _ ?side1 ?side2 ?side3 ?side4 ?side5 ?side6 A50.out).mono ?_); (case side1 => repeat (first | exact (Kd.C_below HR0_0.out HB.out) | (with_reducible refine Kd.C_alloc ?_ _) | (with_reducible refine Kd.C_drewN ?_ _) | (with_reducible refine Kd.C_drew ?_))); (case side2 => exact HC0_0.out); (case side3 => repeat (first | exact (Kd.C_below HR0_1.out HB.out) | (with_reducible refine Kd.C_alloc ?_ _) | (with_reducible refine Kd.C_drewN ?_ _) | (with_reducible refine Kd.C_drew ?_))); (case side4 => exact HC0_1.out); (case side5 => repeat (first | exact (Kd.C_below HR1.out HB.out) | (with_reducible refine Kd.C_alloc ?_ _) | (with_reducible refine Kd.C_drewN ?_ _) | (with_reducible refine Kd.C_drew ?_))); (case side6 => exact HC1.out); rintro e w55 ⟨v933, rfl, ho0, hb⟩; have HO934 := Aside0.mk (Kd.R_lower ho0 (below_size uB)); replace BK925 := Aside0.mk (blk_below (uK BK925.out) hb); replace HB := Aside0.mk (below_step uB hb); (try clear hb); (try clear hb2); (try clear hk); (try clear hi); (try clear ho0); obtain ⟨hcz56_0, hcz56_1⟩ := cz2 BK925.out; obtain ⟨hfz56_0, hfz56_1⟩ := fz2 BK925.out) | (go_at_call 35; (with_reducible refine (quinariaref02_Planned.calls kj5 _ _ l0_0 _ _ l0_1 _ _ l1 a2 a3 _ _ l4 t936 _ ?side1 ?side2 ?side3 ?side4 ?side5 ?side6 ?side7 ?side8 A51.out).mono ?_); (case side1 => repeat (first | exact (Kd.C_below HR0_0.out HB.out) | (with_reducible refine Kd.C_alloc ?_ _) | (with_reducible refine Kd.C_drewN ?_ _) | (with_reducible refine Kd.C_drew ?_))); (case side2 => exact HC0_0.out); (case side3 => repeat (first | exact (Kd.C_below HR0_1.out HB.out) | (with_reducible refine Kd.C_alloc ?_ _) | (with_reducible refine Kd.C_drewN ?_ _) | (with_reducible refine Kd.C_drew ?_))); (case side4 => exact HC0_1.out); (case side5 => repeat (first | exact (Kd.C_below HR1.out HB.out) | (with_reducible refine Kd.C_alloc ?_ _) | (with_reducible refine Kd.C_drewN ?_ _) | (with_reducible refine Kd.C_drew ?_))); (case side6 => exact HC1.out); (case side7 => repeat (first | exact (Kd.C_below HR4.out HB.out) | (with_reducible refine Kd.C_alloc ?_ _) | (with_reducible refine Kd.C_drewN ?_ _) | (with_reducible refine Kd.C_drew ?_))); (case side8 => exact HC4.out); rintro e w57 ⟨rfl, hb⟩; replace HO934 := Aside0.mk (Kd.R_below (uR HO934.out) hb); replace BK925 := Aside0.mk (blk_below (uK BK925.out) hb); replace HB := Aside0.mk (below_step uB hb); (try clear hb); (try clear hb2); (try clear hk); (try clear hi))); go_upto_region 7 with (first | (go_at_call 32; (with_reducible refine (channel_Plan.calls _ _ l0_0 _ _ l0_1 _ _ l1 a2 a3 t932 t935 _ ?side1 ?side2 ?side3 ?side4 ?side5 ?side6 A50.out).mono ?_); (case side1 => repeat (first | exact (Kd.C_below HR0_0.out HB.out) | (with_reducible refine Kd.C_alloc ?_ _) | (with_reducible refine Kd.C_drewN ?_ _) | (with_reducible refine Kd.C_drew ?_))); (case side2 => exact HC0_0.out); (case side3 => repeat (first | exact (Kd.C_below HR0_1.out HB.out) | (with_reducible refine Kd.C_alloc ?_ _) | (with_reducible refine Kd.C_drewN ?_ _) | (with_reducible refine Kd.C_drew ?_))); (case side4 => exact HC0_1.out); (case side5 => repeat (first | exact (Kd.C_below HR1.out HB.out) | (with_reducible refine Kd.C_alloc ?_ _) | (with_reducible refine Kd.C_drewN ?_ _) | (with_reducible refine Kd.C_drew ?_))); (case side6 => exact HC1.out); rintro e w55 ⟨v933, rfl, ho0, hb⟩; have HO934 := Aside0.mk (Kd.R_lower ho0 (below_size uB)); replace BK925 := Aside0.mk (blk_below (uK BK925.out) hb); replace HB := Aside0.mk (below_step uB hb); (try clear hb); (try clear hb2); (try clear hk); (try clear hi); (try clear ho0); obtain ⟨hcz56_0, hcz56_1⟩ := cz2 BK925.out; obtain ⟨hfz56_0, hfz56_1⟩ := fz2 BK925.out) | (go_at_call 35; (with_reducible refine (quinariaref02_Planned.calls kj5 _ _ l0_0 _ _ l0_1 _ _ l1 a2 a3 _ _ l4 t936 _ ?side1 ?side2 ?side3 ?side4 ?side5 ?side6 ?side7 ?side8 A51.out).mono ?_); (case side1 => repeat (first | exact (Kd.C_below HR0_0.out HB.out) | (with_reducible refine Kd.C_alloc ?_ _) | (with_reducible refine Kd.C_drewN ?_ _) | (with_reducible refine Kd.C_drew ?_))); (case side2 => exact HC0_0.out); (case side3 => repeat (first | exact (Kd.C_below HR0_1.out HB.out) | (with_reducible refine Kd.C_alloc ?_ _) | (with_reducible refine Kd.C_drewN ?_ _) | (with_reducible refine Kd.C_drew ?_))); (case side4 => exact HC0_1.out); (case side5 => repeat (first | exact (Kd.C_below HR1.out HB.out) | (with_reducible refine Kd.C_alloc ?_ _) | (with_reducible refine Kd.C_drewN ?_ _) | (with_reducible refine Kd.C_drew ?_))); (case side6 => exact HC1.out); (case side7 => repeat (first | exact (Kd.C_below HR4.out HB.out) | (with_reducible refine Kd.C_alloc ?_ _) | (with_reducible refine Kd.C_drewN ?_ _) | (with_reducible refine Kd.C_drew ?_))); (case side8 => exact HC4.out); rintro e w57 ⟨rfl, hb⟩; replace HO934 := Aside0.mk (Kd.R_below (uR HO934.out) hb); replace BK925 := Aside0.mk (blk_below (uK BK925.out) hb); replace HB := Aside0.mk (below_step uB hb); (try clear hb); (try clear hb2); (try clear hk); (try clear hi))))
     (try simp only [Act.put, List.setIfInBounds_toArray, List.set_cons_zero, List.set_cons_succ])
     go_cut [94] (fun v94 wc => ∃ (kq : Nat) (x94_52 : Bool), v94 = .bool x94_52 ∧ Aside0 (quinarialaw02_ChannelBetter.j1 kq l1 a2 l4 t932 t936 x94_52 l0_0 l0_1 = some r) ∧ Aside0 (kq ≤ kj5) ∧ Aside0 (Kd.R (Kd.int .i64) 3 wc w.heap.size (fun _ => True) v933 t932) ∧ Aside0 (wc.heap[gb925]? = some (.cells #[(.slice A0_0 l0_0.length c0_0), (.slice A0_1 l0_1.length c0_1)] 25 (0, 0))) ∧ Aside0 (Below w.heap.size w wc))
     case first =>
      have H := HC53.out
      clear HC53
      by_cases c58 : (t932.length : Int) = (l0_1.length : Int)
      ·rw [if_pos c58] at H
       have c58b0 : ((t932.length : Int) == (l0_1.length : Int)) = true := beq_iff_eq.mpr c58
       have c58b1 : ((t932.length : Int) != (l0_1.length : Int)) = false := bne_eq_false_iff_eq.mpr c58
       have c58b2 : (t932.length == l0_1.length) = true := by first | simpa using c58 | (simp at c58 ⊢; omega)
       clear c58
       (first | rw [c58b0] | (simp only [i64_w, i32_w]; rw [c58b0]) | skip)
       replace H := Option.bind_eq_some_iff.mp H
       obtain ⟨t938, A590, H⟩ := H
       replace H : (quinarialaw02_ChannelBetter.j1 kj5 l1 a2 l4 t932 t936 (!t938) l0_0 l0_1) = some r := H
       have A59 := Aside0.mk A590
       clear A590
       have H' := Aside0.mk H
       clear H
       obtain ⟨Ao60, co60, eo60⟩ := Kd.R_slice HO934.out
       subst eo60
       obtain ⟨hcz61_0, hcz61_1⟩ := cz2 BK925.out
       obtain ⟨hfz61_0, hfz61_1⟩ := fz2 BK925.out
       go_wp2_with (first | (go_at_call 35; (with_reducible refine (quinariaref02_Planned.calls kj5 _ _ l0_0 _ _ l0_1 _ _ l1 a2 a3 _ _ t932 t938 _ ?side1 ?side2 ?side3 ?side4 ?side5 ?side6 ?side7 ?side8 A59.out).mono ?_); (case side1 => repeat (first | exact (Kd.C_below HR0_0.out HB.out) | (with_reducible refine Kd.C_alloc ?_ _) | (with_reducible refine Kd.C_drewN ?_ _) | (with_reducible refine Kd.C_drew ?_))); (case side2 => exact HC0_0.out); (case side3 => repeat (first | exact (Kd.C_below HR0_1.out HB.out) | (with_reducible refine Kd.C_alloc ?_ _) | (with_reducible refine Kd.C_drewN ?_ _) | (with_reducible refine Kd.C_drew ?_))); (case side4 => exact HC0_1.out); (case side5 => repeat (first | exact (Kd.C_below HR1.out HB.out) | (with_reducible refine Kd.C_alloc ?_ _) | (with_reducible refine Kd.C_drewN ?_ _) | (with_reducible refine Kd.C_drew ?_))); (case side6 => exact HC1.out); (case side7 => repeat (first | exact (Kd.R_reads' HO934.out).2.2 | (with_reducible refine Kd.C_alloc ?_ _) | (with_reducible refine Kd.C_drewN ?_ _) | (with_reducible refine Kd.C_drew ?_))); (case side8 => exact (Kd.R_reads' HO934.out).2.1); rintro e w62 ⟨rfl, hb⟩; replace HO934 := Aside0.mk (Kd.R_below (uR HO934.out) hb); replace BK925 := Aside0.mk (blk_below (uK BK925.out) hb); replace HB := Aside0.mk (below_step uB hb); (try clear hb); (try clear hb2); (try clear hk); (try clear hi)))
       repeat (go_quiet (first | (go_at_call 35; (with_reducible refine (quinariaref02_Planned.calls kj5 _ _ l0_0 _ _ l0_1 _ _ l1 a2 a3 _ _ t932 t938 _ ?side1 ?side2 ?side3 ?side4 ?side5 ?side6 ?side7 ?side8 A59.out).mono ?_); (case side1 => repeat (first | exact (Kd.C_below HR0_0.out HB.out) | (with_reducible refine Kd.C_alloc ?_ _) | (with_reducible refine Kd.C_drewN ?_ _) | (with_reducible refine Kd.C_drew ?_))); (case side2 => exact HC0_0.out); (case side3 => repeat (first | exact (Kd.C_below HR0_1.out HB.out) | (with_reducible refine Kd.C_alloc ?_ _) | (with_reducible refine Kd.C_drewN ?_ _) | (with_reducible refine Kd.C_drew ?_))); (case side4 => exact HC0_1.out); (case side5 => repeat (first | exact (Kd.C_below HR1.out HB.out) | (with_reducible refine Kd.C_alloc ?_ _) | (with_reducible refine Kd.C_drewN ?_ _) | (with_reducible refine Kd.C_drew ?_))); (case side6 => exact HC1.out); (case side7 => repeat (first | exact (Kd.R_reads' HO934.out).2.2 | (with_reducible refine Kd.C_alloc ?_ _) | (with_reducible refine Kd.C_drewN ?_ _) | (with_reducible refine Kd.C_drew ?_))); (case side8 => exact (Kd.R_reads' HO934.out).2.1); rintro e w62 ⟨rfl, hb⟩; replace HO934 := Aside0.mk (Kd.R_below (uR HO934.out) hb); replace BK925 := Aside0.mk (blk_below (uK BK925.out) hb); replace HB := Aside0.mk (below_step uB hb); (try clear hb); (try clear hb2); (try clear hk); (try clear hi))); try go_wp2_with (first | (go_at_call 35; (with_reducible refine (quinariaref02_Planned.calls kj5 _ _ l0_0 _ _ l0_1 _ _ l1 a2 a3 _ _ t932 t938 _ ?side1 ?side2 ?side3 ?side4 ?side5 ?side6 ?side7 ?side8 A59.out).mono ?_); (case side1 => repeat (first | exact (Kd.C_below HR0_0.out HB.out) | (with_reducible refine Kd.C_alloc ?_ _) | (with_reducible refine Kd.C_drewN ?_ _) | (with_reducible refine Kd.C_drew ?_))); (case side2 => exact HC0_0.out); (case side3 => repeat (first | exact (Kd.C_below HR0_1.out HB.out) | (with_reducible refine Kd.C_alloc ?_ _) | (with_reducible refine Kd.C_drewN ?_ _) | (with_reducible refine Kd.C_drew ?_))); (case side4 => exact HC0_1.out); (case side5 => repeat (first | exact (Kd.C_below HR1.out HB.out) | (with_reducible refine Kd.C_alloc ?_ _) | (with_reducible refine Kd.C_drewN ?_ _) | (with_reducible refine Kd.C_drew ?_))); (case side6 => exact HC1.out); (case side7 => repeat (first | exact (Kd.R_reads' HO934.out).2.2 | (with_reducible refine Kd.C_alloc ?_ _) | (with_reducible refine Kd.C_drewN ?_ _) | (with_reducible refine Kd.C_drew ?_))); (case side8 => exact (Kd.R_reads' HO934.out).2.1); rintro e w62 ⟨rfl, hb⟩; replace HO934 := Aside0.mk (Kd.R_below (uR HO934.out) hb); replace BK925 := Aside0.mk (blk_below (uK BK925.out) hb); replace HB := Aside0.mk (below_step uB hb); (try clear hb); (try clear hb2); (try clear hk); (try clear hi))))
       go_meet
       case rel => exact ⟨_, (!t938), u0, H', ⟨by have := HJ5.out; first | omega | exact Nat.le_refl _⟩, ⟨uR HO934.out⟩, ⟨uK BK925.out⟩, ⟨uB⟩⟩
      ·rw [if_neg c58] at H
       have c58b0 : ((t932.length : Int) == (l0_1.length : Int)) = false := beq_eq_false_iff_ne.mpr c58
       have c58b1 : ((t932.length : Int) != (l0_1.length : Int)) = true := bne_iff_ne.mpr c58
       have c58b2 : (t932.length == l0_1.length) = false := by first | simpa using c58 | (simp at c58 ⊢; omega)
       (first | rw [c58b0] | (simp only [i64_w, i32_w]; rw [c58b0]) | skip)
       have H' := Aside0.mk H
       clear H
       obtain ⟨Ao63, co63, eo63⟩ := Kd.R_slice HO934.out
       subst eo63
       obtain ⟨hcz64_0, hcz64_1⟩ := cz2 BK925.out
       obtain ⟨hfz64_0, hfz64_1⟩ := fz2 BK925.out
       go_wp2
       repeat (go_quiet (fail); try go_wp2)
       go_meet
       case rel => exact ⟨_, (true), u0, H', ⟨by have := HJ5.out; first | omega | exact Nat.le_refl _⟩, ⟨uR HO934.out⟩, ⟨uK BK925.out⟩, ⟨uB⟩⟩
     case rest =>
      clear HC53; try clear c1; try clear c2; try clear p2; try clear c4; try clear c5; try clear c9; try clear c10; try clear c10b0; try clear c10b1; try clear c13; try clear c13b0; try clear c13b1; try clear c17; try clear c19; try clear c21; try clear c47; try clear c52; try clear c52b0; try clear c52b1; try clear c58; try clear c58b0; try clear c58b1; try clear c58b2; try clear hcz11_0; try clear hcz11_1; try clear hcz14_0; try clear hcz14_1; try clear hcz23_0; try clear hcz23_1; try clear hcz25_0; try clear hcz25_1; try clear hcz27_0; try clear hcz27_1; try clear hcz29_0; try clear hcz29_1; try clear hcz31_0; try clear hcz31_1; try clear hcz33_0; try clear hcz33_1; try clear hcz35_0; try clear hcz35_1; try clear hcz37_0; try clear hcz37_1; try clear hcz39_0; try clear hcz39_1; try clear hcz41_0; try clear hcz41_1; try clear hcz43_0; try clear hcz43_1; try clear hcz45_0; try clear hcz45_1; try clear hcz54_0; try clear hcz54_1; try clear hcz56_0; try clear hcz56_1; try clear hcz61_0; try clear hcz61_1; try clear hcz64_0; try clear hcz64_1; try clear hfz11_0; try clear hfz11_1; try clear hfz14_0; try clear hfz14_1; try clear hfz23_0; try clear hfz23_1; try clear hfz25_0; try clear hfz25_1; try clear hfz27_0; try clear hfz27_1; try clear hfz29_0; try clear hfz29_1; try clear hfz31_0; try clear hfz31_1; try clear hfz33_0; try clear hfz33_1; try clear hfz35_0; try clear hfz35_1; try clear hfz37_0; try clear hfz37_1; try clear hfz39_0; try clear hfz39_1; try clear hfz41_0; try clear hfz41_1; try clear hfz43_0; try clear hfz43_1; try clear hfz45_0; try clear hfz45_1; try clear hfz54_0; try clear hfz54_1; try clear hfz56_0; try clear hfz56_1; try clear hfz61_0; try clear hfz61_1; try clear hfz64_0; try clear hfz64_1; try clear p2
      obtain ⟨kq, x94_52, rfl, HA, HJ52, HO_11, BK925, HB⟩ := hcut
      cases kq with
      | zero => exact absurd HA.out (by simp [quinarialaw02_ChannelBetter.j1])
      | succ kj52 =>
       have H := HA.out
       clear HA
       simp only [quinarialaw02_ChannelBetter.j1] at H
       by_cases c65 : x94_52 = true
       ·subst c65
        have H1 : (some false) = some r := by rw [if_pos rfl] at H; exact H
        clear H
        have H := H1
        clear H1
        obtain rfl := Option.some.inj H
        go_wp2
        repeat (go_quiet (fail); try go_wp2)
        go_ret
        exact ⟨uE, uB⟩
       ·replace c65 := Bool.eq_false_iff.mpr c65
        subst c65
        have H1 : (quinarialaw02_ChannelBetter.l0 kj52 l1 a2 l4 t932 t936 0 l0_0 l0_1) = some r := by rw [if_neg (show ¬ (false = true) by decide)] at H; exact H
        clear H
        have H := H1
        clear H1
        have H' := Aside0.mk H
        clear H
        go_wp2
        repeat (go_quiet (fail); try go_wp2)
        go_loopg [14] kj52 (fun kq v14 w' => ∃ (x14_3 : Int), v14 = .int .i64 x14_3 ∧ Aside0 (quinarialaw02_ChannelBetter.l0 kq l1 a2 l4 t932 t936 x14_3 l0_0 l0_1 = some r) ∧ Aside0 (kq ≤ kj52) ∧ Aside0 (Kd.R (Kd.int .i64) 3 w' w.heap.size (fun _ => True) v933 t932) ∧ Aside0 (w'.heap[gb925]? = some (.cells #[(.slice A0_0 l0_0.length c0_0), (.slice A0_1 l0_1.length c0_1)] 25 (0, 0))) ∧ Aside0 (Below w.heap.size w w'))
        case atStart => exact ⟨(0), u0, H', ⟨Nat.le_refl _⟩, ⟨uR HO_11.out⟩, ⟨uK BK925.out⟩, ⟨uB⟩⟩
        case round =>
         clear H'
         try clear c1; try clear c2; try clear p2; try clear c4; try clear c5; try clear c6; try clear c9; try clear c10; try clear c10b0; try clear c10b1; try clear c13; try clear c13b0; try clear c13b1; try clear c17; try clear c19; try clear c21; try clear c47; try clear c52; try clear c52b0; try clear c52b1; try clear c58; try clear c58b0; try clear c58b1; try clear c58b2; try clear c65; try clear hcz11_0; try clear hcz11_1; try clear hcz14_0; try clear hcz14_1; try clear hcz23_0; try clear hcz23_1; try clear hcz25_0; try clear hcz25_1; try clear hcz27_0; try clear hcz27_1; try clear hcz29_0; try clear hcz29_1; try clear hcz31_0; try clear hcz31_1; try clear hcz33_0; try clear hcz33_1; try clear hcz35_0; try clear hcz35_1; try clear hcz37_0; try clear hcz37_1; try clear hcz39_0; try clear hcz39_1; try clear hcz41_0; try clear hcz41_1; try clear hcz43_0; try clear hcz43_1; try clear hcz45_0; try clear hcz45_1; try clear hcz54_0; try clear hcz54_1; try clear hcz56_0; try clear hcz56_1; try clear hcz61_0; try clear hcz61_1; try clear hcz64_0; try clear hcz64_1; try clear hfz11_0; try clear hfz11_1; try clear hfz14_0; try clear hfz14_1; try clear hfz23_0; try clear hfz23_1; try clear hfz25_0; try clear hfz25_1; try clear hfz27_0; try clear hfz27_1; try clear hfz29_0; try clear hfz29_1; try clear hfz31_0; try clear hfz31_1; try clear hfz33_0; try clear hfz33_1; try clear hfz35_0; try clear hfz35_1; try clear hfz37_0; try clear hfz37_1; try clear hfz39_0; try clear hfz39_1; try clear hfz41_0; try clear hfz41_1; try clear hfz43_0; try clear hfz43_1; try clear hfz45_0; try clear hfz45_1; try clear hfz54_0; try clear hfz54_1; try clear hfz56_0; try clear hfz56_1; try clear hfz61_0; try clear hfz61_1; try clear hfz64_0; try clear hfz64_1; try clear p2
         obtain ⟨x14_3, rfl, HA, HK3, HO_11, BK925, HB⟩ := hrel
         cases gk with
         | zero => exact absurd HA.out (by simp [quinarialaw02_ChannelBetter.l0])
         | succ k3 =>
          have H := HA.out
          clear HA
          simp only [quinarialaw02_ChannelBetter.l0] at H
          by_cases c66 : x14_3 < (t932.length : Int)
          ·rw [if_pos c66] at H
           replace c66 := decide_eq_true c66
           obtain ⟨c67, H⟩ := ifs H
           replace c67 := decide_eq_true c67
           obtain ⟨c68, H⟩ := ifs H
           replace c68 := decide_eq_true c68
           obtain ⟨ji69, hji69⟩ : ∃ j_ : Int, (mx 0 (rd t932 x14_3)) = j_ := ⟨_, rfl⟩
           replace H : (if (rd t932 x14_3) ≥ 0 then ((quinariaref02_Age.f (wrap64 ((rd l1 x14_3) + (ji69)))).bind fun t942 => (quinarialaw02_ChannelBetter.j3 k3 l1 a2 l4 t932 t936 x14_3 (wrap64 ((rd l1 x14_3) + (ji69))) t942 l0_0 l0_1)) else (quinarialaw02_ChannelBetter.j3 k3 l1 a2 l4 t932 t936 x14_3 (wrap64 ((rd l1 x14_3) + (ji69))) false l0_0 l0_1)) = some r := by first | (rw [hji69] at H; exact H) | (simp only [hji69] at H ⊢; exact H)
           have hji69_ : (if 0 < (rd t932 x14_3) then (rd t932 x14_3) else 0) = ji69 := hji69
           have HC70 := Aside0.mk H
           clear H
           obtain ⟨Ao71, co71, eo71⟩ := Kd.R_slice HO_11.out
           subst eo71
           have p939 : 0 ≤ (x14_3 : Int) := of_decide_eq_true (by first | (with_reducible assumption) | assumption)
           have q939 : x14_3 < (l1.length : Int) := of_decide_eq_true (by first | (with_reducible assumption) | assumption)
           obtain ⟨ad939, e939, hx939_0⟩ := Kd.at_int HR1.out x14_3 p939 q939
           cases e939
           replace hx939_0 := hcell HB.out hx939_0
           replace p939 := eq_true p939
           replace q939 := eq_true q939
           have p940 : 0 ≤ (x14_3 : Int) := of_decide_eq_true (by first | (with_reducible assumption) | assumption)
           have q940 : x14_3 < (t932.length : Int) := of_decide_eq_true (by first | (with_reducible assumption) | assumption)
           obtain ⟨ad940, e940, hx940_0⟩ := Kd.at_int (Kd.R_reads' HO_11.out).2.2 x14_3 p940 q940
           cases e940
           replace p940 := eq_true p940
           replace q940 := eq_true q940
           go_upto_region 13 with (fail)
           repeat (go_quiet (fail); go_upto_region 13 with (fail))
           go_cut [119] (fun v119 wc => ∃ (kq : Nat) (x119_69 : Bool), v119 = .bool x119_69 ∧ Aside0 (quinarialaw02_ChannelBetter.j3 kq l1 a2 l4 t932 t936 x14_3 (wrap64 ((rd l1 x14_3) + (ji69))) x119_69 l0_0 l0_1 = some r) ∧ Aside0 (kq ≤ k3) ∧ Aside0 (Kd.R (Kd.int .i64) 3 wc w.heap.size (fun _ => True) (.slice (some ad940) t932.length co71) t932) ∧ Aside0 (wc.heap[gb925]? = some (.cells #[(.slice A0_0 l0_0.length c0_0), (.slice A0_1 l0_1.length c0_1)] 25 (0, 0))) ∧ Aside0 (Below w.heap.size w wc))
           case first =>
            have H := HC70.out
            clear HC70
            by_cases c72 : (rd t932 x14_3) ≥ 0
            ·rw [if_pos c72] at H
             replace c72 := decide_eq_true c72
             (first | rw [c72b0] | (simp only [i64_w, i32_w]; rw [c72b0]) | skip)
             replace H := Option.bind_eq_some_iff.mp H
             obtain ⟨t942, A730, H⟩ := H
             replace H : (quinarialaw02_ChannelBetter.j3 k3 l1 a2 l4 t932 t936 x14_3 (wrap64 ((rd l1 x14_3) + (ji69))) t942 l0_0 l0_1) = some r := H
             have A73 := Aside0.mk A730
             clear A730
             have H' := Aside0.mk H
             clear H
             have p941 : 0 ≤ (x14_3 : Int) := of_decide_eq_true (by first | (with_reducible assumption) | assumption)
             have q941 : x14_3 < (t932.length : Int) := of_decide_eq_true (by first | (with_reducible assumption) | assumption)
             obtain ⟨ad941, e941, hx941_0⟩ := Kd.at_int (Kd.R_reads' HO_11.out).2.2 x14_3 p941 q941
             obtain rfl : ad940 = ad941 := (by injection e941)
             replace p941 := eq_true p941
             replace q941 := eq_true q941
             go_wp2_with (first | (go_at_call 16; (with_reducible refine (quinariaref02_Age.calls (wrap64 ((rd l1 x14_3) + (ji69))) t942 _ A73.out).mono ?_); rintro e w' ⟨rfl, ⟨nd, rfl⟩⟩; (try first | exact ⟨rfl, _, World.drewN_drewN _ _ _⟩ | exact ⟨rfl, _, Eq.trans (World.drewN_drewN _ _ _) (congrArg (World.drewN _) (Nat.add_assoc _ _ _))⟩)))
             repeat (go_quiet (first | (go_at_call 16; (with_reducible refine (quinariaref02_Age.calls (wrap64 ((rd l1 x14_3) + (ji69))) t942 _ A73.out).mono ?_); rintro e w' ⟨rfl, ⟨nd, rfl⟩⟩; (try first | exact ⟨rfl, _, World.drewN_drewN _ _ _⟩ | exact ⟨rfl, _, Eq.trans (World.drewN_drewN _ _ _) (congrArg (World.drewN _) (Nat.add_assoc _ _ _))⟩))); try go_wp2_with (first | (go_at_call 16; (with_reducible refine (quinariaref02_Age.calls (wrap64 ((rd l1 x14_3) + (ji69))) t942 _ A73.out).mono ?_); rintro e w' ⟨rfl, ⟨nd, rfl⟩⟩; (try first | exact ⟨rfl, _, World.drewN_drewN _ _ _⟩ | exact ⟨rfl, _, Eq.trans (World.drewN_drewN _ _ _) (congrArg (World.drewN _) (Nat.add_assoc _ _ _))⟩))))
             go_meet
             case rel => exact ⟨_, (t942), u0, H', ⟨by have := HJ5.out; have := HJ52.out; have := HK3.out; first | omega | exact Nat.le_refl _⟩, ⟨uR HO_11.out⟩, ⟨uK BK925.out⟩, ⟨uB⟩⟩
            ·rw [if_neg c72] at H
             replace c72 := decide_eq_false c72
             (first | rw [c72b0] | (simp only [i64_w, i32_w]; rw [c72b0]) | skip)
             have H' := Aside0.mk H
             clear H
             have p941 : 0 ≤ (x14_3 : Int) := of_decide_eq_true (by first | (with_reducible assumption) | assumption)
             have q941 : x14_3 < (t932.length : Int) := of_decide_eq_true (by first | (with_reducible assumption) | assumption)
             obtain ⟨ad941, e941, hx941_0⟩ := Kd.at_int (Kd.R_reads' HO_11.out).2.2 x14_3 p941 q941
             obtain rfl : ad940 = ad941 := (by injection e941)
             replace p941 := eq_true p941
             replace q941 := eq_true q941
             go_wp2
             repeat (go_quiet (fail); try go_wp2)
             go_meet
             case rel => exact ⟨_, (false), u0, H', ⟨by have := HJ5.out; have := HJ52.out; have := HK3.out; first | omega | exact Nat.le_refl _⟩, ⟨uR HO_11.out⟩, ⟨uK BK925.out⟩, ⟨uB⟩⟩
           case rest =>
            clear HC70; try clear c1; try clear c2; try clear p2; try clear c4; try clear c5; try clear c6; try clear p6; try clear c7; try clear c9; try clear p9; try clear q9; try clear hx9; try clear c10; try clear c10b0; try clear c10b1; try clear c13; try clear c13b0; try clear c13b1; try clear c17; try clear c19; try clear c21; try clear c47; try clear c52; try clear c52b0; try clear c52b1; try clear c58; try clear c58b0; try clear c58b1; try clear c58b2; try clear p64; try clear c65; try clear c66; try clear c66b0; try clear c67; try clear c67b0; try clear c68; try clear c68b0; try clear c72; try clear c72b0; try clear hcz11_0; try clear hcz11_1; try clear hcz14_0; try clear hcz14_1; try clear hcz23_0; try clear hcz23_1; try clear hcz25_0; try clear hcz25_1; try clear hcz27_0; try clear hcz27_1; try clear hcz29_0; try clear hcz29_1; try clear hcz31_0; try clear hcz31_1; try clear hcz33_0; try clear hcz33_1; try clear hcz35_0; try clear hcz35_1; try clear hcz37_0; try clear hcz37_1; try clear hcz39_0; try clear hcz39_1; try clear hcz41_0; try clear hcz41_1; try clear hcz43_0; try clear hcz43_1; try clear hcz45_0; try clear hcz45_1; try clear hcz54_0; try clear hcz54_1; try clear hcz56_0; try clear hcz56_1; try clear hcz61_0; try clear hcz61_1; try clear hcz64_0; try clear hcz64_1; try clear hfz11_0; try clear hfz11_1; try clear hfz14_0; try clear hfz14_1; try clear hfz23_0; try clear hfz23_1; try clear hfz25_0; try clear hfz25_1; try clear hfz27_0; try clear hfz27_1; try clear hfz29_0; try clear hfz29_1; try clear hfz31_0; try clear hfz31_1; try clear hfz33_0; try clear hfz33_1; try clear hfz35_0; try clear hfz35_1; try clear hfz37_0; try clear hfz37_1; try clear hfz39_0; try clear hfz39_1; try clear hfz41_0; try clear hfz41_1; try clear hfz43_0; try clear hfz43_1; try clear hfz45_0; try clear hfz45_1; try clear hfz54_0; try clear hfz54_1; try clear hfz56_0; try clear hfz56_1; try clear hfz61_0; try clear hfz61_1; try clear hfz64_0; try clear hfz64_1; try clear hx939_0; try clear hx940_0; try clear hx941_0; try clear p2; try clear p939; try clear p940; try clear p941; try clear q939; try clear q940; try clear q941
            obtain ⟨kq, x119_69, rfl, HA, HJ69, HO_11, BK925, HB⟩ := hcut
            cases kq with
            | zero => exact absurd HA.out (by simp [quinarialaw02_ChannelBetter.j3])
            | succ kj69 =>
             have H := HA.out
             clear HA
             simp only [quinarialaw02_ChannelBetter.j3] at H
             by_cases c74 : x119_69 = true
             ·subst c74
              have H1 : ((channel_Carries.f kj69 l0_0 l0_1 x14_3 (wrap64 ((rd l1 x14_3) + (ji69)))).bind fun bt943 => (if bt943.2.2 = 0 then (if bt943.1 < a2 then (some false) else (quinarialaw02_ChannelBetter.l0 kj69 l1 a2 l4 t932 t936 (wrap64 (x14_3 + 1)) l0_0 l0_1)) else (some false))) = some r := by rw [if_pos rfl] at H; exact H
              clear H
              have H := H1
              clear H1
              replace H := Option.bind_eq_some_iff.mp H
              obtain ⟨⟨t943, t944, t945⟩, A750, H⟩ := H
              replace H : (if t945 = 0 then (if t943 < a2 then (some false) else (quinarialaw02_ChannelBetter.l0 kj69 l1 a2 l4 t932 t936 (wrap64 (x14_3 + 1)) l0_0 l0_1)) else (some false)) = some r := H
              have A75 := Aside0.mk A750
              clear A750
              by_cases c76 : t945 = 0
              ·rw [if_pos c76] at H
               have c76b0 : (t945 == 0) = true := beq_iff_eq.mpr c76
               have c76b1 : (t945 != 0) = false := bne_eq_false_iff_eq.mpr c76
               clear c76
               by_cases c77 : t943 < a2
               ·rw [if_pos c77] at H
                replace c77 := decide_eq_true c77
                obtain rfl := Option.some.inj H
                obtain ⟨hcz78_0, hcz78_1⟩ := cz2 BK925.out
                obtain ⟨hfz78_0, hfz78_1⟩ := fz2 BK925.out
                go_wp2_with (first | (go_at_call 18; (with_reducible refine (channel_Carries.calls kj69 _ _ l0_0 _ _ l0_1 x14_3 (wrap64 ((rd l1 x14_3) + (ji69))) t943 t944 t945 _ ?side1 ?side2 ?side3 ?side4 A75.out).mono ?_); (case side1 => repeat (first | exact (Kd.C_below HR0_0.out HB.out) | (with_reducible refine Kd.C_alloc ?_ _) | (with_reducible refine Kd.C_drewN ?_ _) | (with_reducible refine Kd.C_drew ?_))); (case side2 => exact HC0_0.out); (case side3 => repeat (first | exact (Kd.C_below HR0_1.out HB.out) | (with_reducible refine Kd.C_alloc ?_ _) | (with_reducible refine Kd.C_drewN ?_ _) | (with_reducible refine Kd.C_drew ?_))); (case side4 => exact HC0_1.out); rintro e w79 ⟨rfl, hb⟩; replace HO_11 := Aside0.mk (Kd.R_below (uR HO_11.out) hb); replace BK925 := Aside0.mk (blk_below (uK BK925.out) hb); replace HB := Aside0.mk (below_step uB hb); (try clear hb); (try clear hb2); (try clear hk); (try clear hi)) | ((with_reducible refine gate_dst (N := 16) rfl ?_); (try (refine gate_guard (by rfl) ?_; dsimp only)); refine bxe 16 #[.int .i64 0, .int .i64 0] 30 ?_; intro gb946 hg w80 hbox hb; have n0_ := Aside0.mk (Kd.R_below (uR HO_11.out) hb); have n1_ := Aside0.mk (blk_below (uK BK925.out) hb); have n2_ := Aside0.mk (below_step uB hb); have n3_ := Aside0.mk (hbox); have n4_ := gw hg; have n5_ := gw hg; have n6_ := nb BK925 hg; have n7_ := nc BK925 hg; clear HO_11; clear BK925; clear HB; have HO_11 := n0_; have BK925 := n1_; have HB := n2_; have BK946 := n3_; have GW946 := n4_; have GE946 := n5_; have NB925_946 := n6_; have NB946_925 := n7_; clear n0_ n1_ n2_ n3_ n4_ n5_ n6_ n7_; clear hb hbox hg; have hnb81 := NB946_925.out; have hnc81 := NB925_946.out; obtain ⟨hcz82_0, hcz82_1⟩ := cz2 BK946.out; obtain ⟨hfz82_0, hfz82_1⟩ := fz2 BK946.out))
                repeat (go_quiet (first | (go_at_call 18; (with_reducible refine (channel_Carries.calls kj69 _ _ l0_0 _ _ l0_1 x14_3 (wrap64 ((rd l1 x14_3) + (ji69))) t943 t944 t945 _ ?side1 ?side2 ?side3 ?side4 A75.out).mono ?_); (case side1 => repeat (first | exact (Kd.C_below HR0_0.out HB.out) | (with_reducible refine Kd.C_alloc ?_ _) | (with_reducible refine Kd.C_drewN ?_ _) | (with_reducible refine Kd.C_drew ?_))); (case side2 => exact HC0_0.out); (case side3 => repeat (first | exact (Kd.C_below HR0_1.out HB.out) | (with_reducible refine Kd.C_alloc ?_ _) | (with_reducible refine Kd.C_drewN ?_ _) | (with_reducible refine Kd.C_drew ?_))); (case side4 => exact HC0_1.out); rintro e w79 ⟨rfl, hb⟩; replace HO_11 := Aside0.mk (Kd.R_below (uR HO_11.out) hb); replace BK925 := Aside0.mk (blk_below (uK BK925.out) hb); replace HB := Aside0.mk (below_step uB hb); (try clear hb); (try clear hb2); (try clear hk); (try clear hi)) | ((with_reducible refine gate_dst (N := 16) rfl ?_); (try (refine gate_guard (by rfl) ?_; dsimp only)); refine bxe 16 #[.int .i64 0, .int .i64 0] 30 ?_; intro gb946 hg w80 hbox hb; have n0_ := Aside0.mk (Kd.R_below (uR HO_11.out) hb); have n1_ := Aside0.mk (blk_below (uK BK925.out) hb); have n2_ := Aside0.mk (below_step uB hb); have n3_ := Aside0.mk (hbox); have n4_ := gw hg; have n5_ := gw hg; have n6_ := nb BK925 hg; have n7_ := nc BK925 hg; clear HO_11; clear BK925; clear HB; have HO_11 := n0_; have BK925 := n1_; have HB := n2_; have BK946 := n3_; have GW946 := n4_; have GE946 := n5_; have NB925_946 := n6_; have NB946_925 := n7_; clear n0_ n1_ n2_ n3_ n4_ n5_ n6_ n7_; clear hb hbox hg; have hnb81 := NB946_925.out; have hnc81 := NB925_946.out; obtain ⟨hcz82_0, hcz82_1⟩ := cz2 BK946.out; obtain ⟨hfz82_0, hfz82_1⟩ := fz2 BK946.out)); try go_wp2_with (first | (go_at_call 18; (with_reducible refine (channel_Carries.calls kj69 _ _ l0_0 _ _ l0_1 x14_3 (wrap64 ((rd l1 x14_3) + (ji69))) t943 t944 t945 _ ?side1 ?side2 ?side3 ?side4 A75.out).mono ?_); (case side1 => repeat (first | exact (Kd.C_below HR0_0.out HB.out) | (with_reducible refine Kd.C_alloc ?_ _) | (with_reducible refine Kd.C_drewN ?_ _) | (with_reducible refine Kd.C_drew ?_))); (case side2 => exact HC0_0.out); (case side3 => repeat (first | exact (Kd.C_below HR0_1.out HB.out) | (with_reducible refine Kd.C_alloc ?_ _) | (with_reducible refine Kd.C_drewN ?_ _) | (with_reducible refine Kd.C_drew ?_))); (case side4 => exact HC0_1.out); rintro e w79 ⟨rfl, hb⟩; replace HO_11 := Aside0.mk (Kd.R_below (uR HO_11.out) hb); replace BK925 := Aside0.mk (blk_below (uK BK925.out) hb); replace HB := Aside0.mk (below_step uB hb); (try clear hb); (try clear hb2); (try clear hk); (try clear hi)) | ((with_reducible refine gate_dst (N := 16) rfl ?_); (try (refine gate_guard (by rfl) ?_; dsimp only)); refine bxe 16 #[.int .i64 0, .int .i64 0] 30 ?_; intro gb946 hg w80 hbox hb; have n0_ := Aside0.mk (Kd.R_below (uR HO_11.out) hb); have n1_ := Aside0.mk (blk_below (uK BK925.out) hb); have n2_ := Aside0.mk (below_step uB hb); have n3_ := Aside0.mk (hbox); have n4_ := gw hg; have n5_ := gw hg; have n6_ := nb BK925 hg; have n7_ := nc BK925 hg; clear HO_11; clear BK925; clear HB; have HO_11 := n0_; have BK925 := n1_; have HB := n2_; have BK946 := n3_; have GW946 := n4_; have GE946 := n5_; have NB925_946 := n6_; have NB946_925 := n7_; clear n0_ n1_ n2_ n3_ n4_ n5_ n6_ n7_; clear hb hbox hg; have hnb81 := NB946_925.out; have hnc81 := NB925_946.out; obtain ⟨hcz82_0, hcz82_1⟩ := cz2 BK946.out; obtain ⟨hfz82_0, hfz82_1⟩ := fz2 BK946.out)))
                go_ret
                exact ⟨by first | rfl | (simp [errW_none, errW_some] <;> rfl) | (simp only [← hji69]; first | rfl | (simp [errW_none, errW_some] <;> rfl)) | (simp [*, errW_none, errW_some] <;> rfl), uB⟩
               ·rw [if_neg c77] at H
                replace c77 := decide_eq_false c77
                have H' := Aside0.mk H
                clear H
                obtain ⟨hcz83_0, hcz83_1⟩ := cz2 BK925.out
                obtain ⟨hfz83_0, hfz83_1⟩ := fz2 BK925.out
                go_wp2_with (first | (go_at_call 18; (with_reducible refine (channel_Carries.calls kj69 _ _ l0_0 _ _ l0_1 x14_3 (wrap64 ((rd l1 x14_3) + (ji69))) t943 t944 t945 _ ?side1 ?side2 ?side3 ?side4 A75.out).mono ?_); (case side1 => repeat (first | exact (Kd.C_below HR0_0.out HB.out) | (with_reducible refine Kd.C_alloc ?_ _) | (with_reducible refine Kd.C_drewN ?_ _) | (with_reducible refine Kd.C_drew ?_))); (case side2 => exact HC0_0.out); (case side3 => repeat (first | exact (Kd.C_below HR0_1.out HB.out) | (with_reducible refine Kd.C_alloc ?_ _) | (with_reducible refine Kd.C_drewN ?_ _) | (with_reducible refine Kd.C_drew ?_))); (case side4 => exact HC0_1.out); rintro e w84 ⟨rfl, hb⟩; replace HO_11 := Aside0.mk (Kd.R_below (uR HO_11.out) hb); replace BK925 := Aside0.mk (blk_below (uK BK925.out) hb); replace HB := Aside0.mk (below_step uB hb); (try clear hb); (try clear hb2); (try clear hk); (try clear hi)) | ((with_reducible refine gate_dst (N := 16) rfl ?_); (try (refine gate_guard (by rfl) ?_; dsimp only)); refine bxe 16 #[.int .i64 0, .int .i64 0] 30 ?_; intro gb946 hg w85 hbox hb; have n0_ := Aside0.mk (Kd.R_below (uR HO_11.out) hb); have n1_ := Aside0.mk (blk_below (uK BK925.out) hb); have n2_ := Aside0.mk (below_step uB hb); have n3_ := Aside0.mk (hbox); have n4_ := gw hg; have n5_ := gw hg; have n6_ := nb BK925 hg; have n7_ := nc BK925 hg; clear HO_11; clear BK925; clear HB; have HO_11 := n0_; have BK925 := n1_; have HB := n2_; have BK946 := n3_; have GW946 := n4_; have GE946 := n5_; have NB925_946 := n6_; have NB946_925 := n7_; clear n0_ n1_ n2_ n3_ n4_ n5_ n6_ n7_; clear hb hbox hg; have hnb86 := NB946_925.out; have hnc86 := NB925_946.out; obtain ⟨hcz87_0, hcz87_1⟩ := cz2 BK946.out; obtain ⟨hfz87_0, hfz87_1⟩ := fz2 BK946.out))
                repeat (go_quiet (first | (go_at_call 18; (with_reducible refine (channel_Carries.calls kj69 _ _ l0_0 _ _ l0_1 x14_3 (wrap64 ((rd l1 x14_3) + (ji69))) t943 t944 t945 _ ?side1 ?side2 ?side3 ?side4 A75.out).mono ?_); (case side1 => repeat (first | exact (Kd.C_below HR0_0.out HB.out) | (with_reducible refine Kd.C_alloc ?_ _) | (with_reducible refine Kd.C_drewN ?_ _) | (with_reducible refine Kd.C_drew ?_))); (case side2 => exact HC0_0.out); (case side3 => repeat (first | exact (Kd.C_below HR0_1.out HB.out) | (with_reducible refine Kd.C_alloc ?_ _) | (with_reducible refine Kd.C_drewN ?_ _) | (with_reducible refine Kd.C_drew ?_))); (case side4 => exact HC0_1.out); rintro e w84 ⟨rfl, hb⟩; replace HO_11 := Aside0.mk (Kd.R_below (uR HO_11.out) hb); replace BK925 := Aside0.mk (blk_below (uK BK925.out) hb); replace HB := Aside0.mk (below_step uB hb); (try clear hb); (try clear hb2); (try clear hk); (try clear hi)) | ((with_reducible refine gate_dst (N := 16) rfl ?_); (try (refine gate_guard (by rfl) ?_; dsimp only)); refine bxe 16 #[.int .i64 0, .int .i64 0] 30 ?_; intro gb946 hg w85 hbox hb; have n0_ := Aside0.mk (Kd.R_below (uR HO_11.out) hb); have n1_ := Aside0.mk (blk_below (uK BK925.out) hb); have n2_ := Aside0.mk (below_step uB hb); have n3_ := Aside0.mk (hbox); have n4_ := gw hg; have n5_ := gw hg; have n6_ := nb BK925 hg; have n7_ := nc BK925 hg; clear HO_11; clear BK925; clear HB; have HO_11 := n0_; have BK925 := n1_; have HB := n2_; have BK946 := n3_; have GW946 := n4_; have GE946 := n5_; have NB925_946 := n6_; have NB946_925 := n7_; clear n0_ n1_ n2_ n3_ n4_ n5_ n6_ n7_; clear hb hbox hg; have hnb86 := NB946_925.out; have hnc86 := NB925_946.out; obtain ⟨hcz87_0, hcz87_1⟩ := cz2 BK946.out; obtain ⟨hfz87_0, hfz87_1⟩ := fz2 BK946.out)); try go_wp2_with (first | (go_at_call 18; (with_reducible refine (channel_Carries.calls kj69 _ _ l0_0 _ _ l0_1 x14_3 (wrap64 ((rd l1 x14_3) + (ji69))) t943 t944 t945 _ ?side1 ?side2 ?side3 ?side4 A75.out).mono ?_); (case side1 => repeat (first | exact (Kd.C_below HR0_0.out HB.out) | (with_reducible refine Kd.C_alloc ?_ _) | (with_reducible refine Kd.C_drewN ?_ _) | (with_reducible refine Kd.C_drew ?_))); (case side2 => exact HC0_0.out); (case side3 => repeat (first | exact (Kd.C_below HR0_1.out HB.out) | (with_reducible refine Kd.C_alloc ?_ _) | (with_reducible refine Kd.C_drewN ?_ _) | (with_reducible refine Kd.C_drew ?_))); (case side4 => exact HC0_1.out); rintro e w84 ⟨rfl, hb⟩; replace HO_11 := Aside0.mk (Kd.R_below (uR HO_11.out) hb); replace BK925 := Aside0.mk (blk_below (uK BK925.out) hb); replace HB := Aside0.mk (below_step uB hb); (try clear hb); (try clear hb2); (try clear hk); (try clear hi)) | ((with_reducible refine gate_dst (N := 16) rfl ?_); (try (refine gate_guard (by rfl) ?_; dsimp only)); refine bxe 16 #[.int .i64 0, .int .i64 0] 30 ?_; intro gb946 hg w85 hbox hb; have n0_ := Aside0.mk (Kd.R_below (uR HO_11.out) hb); have n1_ := Aside0.mk (blk_below (uK BK925.out) hb); have n2_ := Aside0.mk (below_step uB hb); have n3_ := Aside0.mk (hbox); have n4_ := gw hg; have n5_ := gw hg; have n6_ := nb BK925 hg; have n7_ := nc BK925 hg; clear HO_11; clear BK925; clear HB; have HO_11 := n0_; have BK925 := n1_; have HB := n2_; have BK946 := n3_; have GW946 := n4_; have GE946 := n5_; have NB925_946 := n6_; have NB946_925 := n7_; clear n0_ n1_ n2_ n3_ n4_ n5_ n6_ n7_; clear hb hbox hg; have hnb86 := NB946_925.out; have hnc86 := NB925_946.out; obtain ⟨hcz87_0, hcz87_1⟩ := cz2 BK946.out; obtain ⟨hfz87_0, hfz87_1⟩ := fz2 BK946.out)))
                go_roundg kj69
                case measure => have := HJ5.out; have := HJ52.out; have := HK3.out; have := HJ69.out; omega
                case rel => exact ⟨(wrap64 (x14_3 + 1)), u0, H', ⟨by have := HJ5.out; have := HJ52.out; have := HK3.out; have := HJ69.out; omega⟩, ⟨by refine uR ?_; exact Kd.R_mono (Kd.R_far (p := ⟨gb946, 1, none⟩) (Kd.R_far (p := ⟨gb946, 0, none⟩) (Kd.R_types HO_11.out BK946.out (by decide)) (fun _ hk => hk.2) (.int .i64 t943)) (fun _ hk => hk.2) (.int .i64 t944)) (fun _ hk => trivial)⟩, ⟨by refine uK ?_; refine blk_far ?_ NB925_946.out _; refine uK ?_; refine blk_far ?_ NB925_946.out _; refine uK ?_; exact BK925.out⟩, ⟨uB⟩⟩
              ·rw [if_neg c76] at H
               have c76b0 : (t945 == 0) = false := beq_eq_false_iff_ne.mpr c76
               have c76b1 : (t945 != 0) = true := bne_iff_ne.mpr c76
               obtain rfl := Option.some.inj H
               obtain ⟨hcz88_0, hcz88_1⟩ := cz2 BK925.out
               obtain ⟨hfz88_0, hfz88_1⟩ := fz2 BK925.out
               go_wp2_with (first | (go_at_call 18; (with_reducible refine (channel_Carries.calls kj69 _ _ l0_0 _ _ l0_1 x14_3 (wrap64 ((rd l1 x14_3) + (ji69))) t943 t944 t945 _ ?side1 ?side2 ?side3 ?side4 A75.out).mono ?_); (case side1 => repeat (first | exact (Kd.C_below HR0_0.out HB.out) | (with_reducible refine Kd.C_alloc ?_ _) | (with_reducible refine Kd.C_drewN ?_ _) | (with_reducible refine Kd.C_drew ?_))); (case side2 => exact HC0_0.out); (case side3 => repeat (first | exact (Kd.C_below HR0_1.out HB.out) | (with_reducible refine Kd.C_alloc ?_ _) | (with_reducible refine Kd.C_drewN ?_ _) | (with_reducible refine Kd.C_drew ?_))); (case side4 => exact HC0_1.out); rintro e w89 ⟨rfl, hb⟩; replace HO_11 := Aside0.mk (Kd.R_below (uR HO_11.out) hb); replace BK925 := Aside0.mk (blk_below (uK BK925.out) hb); replace HB := Aside0.mk (below_step uB hb); (try clear hb); (try clear hb2); (try clear hk); (try clear hi)) | ((with_reducible refine gate_dst (N := 16) rfl ?_); (try (refine gate_guard (by rfl) ?_; dsimp only)); refine bxe 16 #[.int .i64 0, .int .i64 0] 30 ?_; intro gb946 hg w90 hbox hb; have n0_ := Aside0.mk (Kd.R_below (uR HO_11.out) hb); have n1_ := Aside0.mk (blk_below (uK BK925.out) hb); have n2_ := Aside0.mk (below_step uB hb); have n3_ := Aside0.mk (hbox); have n4_ := gw hg; have n5_ := gw hg; have n6_ := nb BK925 hg; have n7_ := nc BK925 hg; clear HO_11; clear BK925; clear HB; have HO_11 := n0_; have BK925 := n1_; have HB := n2_; have BK946 := n3_; have GW946 := n4_; have GE946 := n5_; have NB925_946 := n6_; have NB946_925 := n7_; clear n0_ n1_ n2_ n3_ n4_ n5_ n6_ n7_; clear hb hbox hg; have hnb91 := NB946_925.out; have hnc91 := NB925_946.out; obtain ⟨hcz92_0, hcz92_1⟩ := cz2 BK946.out; obtain ⟨hfz92_0, hfz92_1⟩ := fz2 BK946.out))
               repeat (go_quiet (first | (go_at_call 18; (with_reducible refine (channel_Carries.calls kj69 _ _ l0_0 _ _ l0_1 x14_3 (wrap64 ((rd l1 x14_3) + (ji69))) t943 t944 t945 _ ?side1 ?side2 ?side3 ?side4 A75.out).mono ?_); (case side1 => repeat (first | exact (Kd.C_below HR0_0.out HB.out) | (with_reducible refine Kd.C_alloc ?_ _) | (with_reducible refine Kd.C_drewN ?_ _) | (with_reducible refine Kd.C_drew ?_))); (case side2 => exact HC0_0.out); (case side3 => repeat (first | exact (Kd.C_below HR0_1.out HB.out) | (with_reducible refine Kd.C_alloc ?_ _) | (with_reducible refine Kd.C_drewN ?_ _) | (with_reducible refine Kd.C_drew ?_))); (case side4 => exact HC0_1.out); rintro e w89 ⟨rfl, hb⟩; replace HO_11 := Aside0.mk (Kd.R_below (uR HO_11.out) hb); replace BK925 := Aside0.mk (blk_below (uK BK925.out) hb); replace HB := Aside0.mk (below_step uB hb); (try clear hb); (try clear hb2); (try clear hk); (try clear hi)) | ((with_reducible refine gate_dst (N := 16) rfl ?_); (try (refine gate_guard (by rfl) ?_; dsimp only)); refine bxe 16 #[.int .i64 0, .int .i64 0] 30 ?_; intro gb946 hg w90 hbox hb; have n0_ := Aside0.mk (Kd.R_below (uR HO_11.out) hb); have n1_ := Aside0.mk (blk_below (uK BK925.out) hb); have n2_ := Aside0.mk (below_step uB hb); have n3_ := Aside0.mk (hbox); have n4_ := gw hg; have n5_ := gw hg; have n6_ := nb BK925 hg; have n7_ := nc BK925 hg; clear HO_11; clear BK925; clear HB; have HO_11 := n0_; have BK925 := n1_; have HB := n2_; have BK946 := n3_; have GW946 := n4_; have GE946 := n5_; have NB925_946 := n6_; have NB946_925 := n7_; clear n0_ n1_ n2_ n3_ n4_ n5_ n6_ n7_; clear hb hbox hg; have hnb91 := NB946_925.out; have hnc91 := NB925_946.out; obtain ⟨hcz92_0, hcz92_1⟩ := cz2 BK946.out; obtain ⟨hfz92_0, hfz92_1⟩ := fz2 BK946.out)); try go_wp2_with (first | (go_at_call 18; (with_reducible refine (channel_Carries.calls kj69 _ _ l0_0 _ _ l0_1 x14_3 (wrap64 ((rd l1 x14_3) + (ji69))) t943 t944 t945 _ ?side1 ?side2 ?side3 ?side4 A75.out).mono ?_); (case side1 => repeat (first | exact (Kd.C_below HR0_0.out HB.out) | (with_reducible refine Kd.C_alloc ?_ _) | (with_reducible refine Kd.C_drewN ?_ _) | (with_reducible refine Kd.C_drew ?_))); (case side2 => exact HC0_0.out); (case side3 => repeat (first | exact (Kd.C_below HR0_1.out HB.out) | (with_reducible refine Kd.C_alloc ?_ _) | (with_reducible refine Kd.C_drewN ?_ _) | (with_reducible refine Kd.C_drew ?_))); (case side4 => exact HC0_1.out); rintro e w89 ⟨rfl, hb⟩; replace HO_11 := Aside0.mk (Kd.R_below (uR HO_11.out) hb); replace BK925 := Aside0.mk (blk_below (uK BK925.out) hb); replace HB := Aside0.mk (below_step uB hb); (try clear hb); (try clear hb2); (try clear hk); (try clear hi)) | ((with_reducible refine gate_dst (N := 16) rfl ?_); (try (refine gate_guard (by rfl) ?_; dsimp only)); refine bxe 16 #[.int .i64 0, .int .i64 0] 30 ?_; intro gb946 hg w90 hbox hb; have n0_ := Aside0.mk (Kd.R_below (uR HO_11.out) hb); have n1_ := Aside0.mk (blk_below (uK BK925.out) hb); have n2_ := Aside0.mk (below_step uB hb); have n3_ := Aside0.mk (hbox); have n4_ := gw hg; have n5_ := gw hg; have n6_ := nb BK925 hg; have n7_ := nc BK925 hg; clear HO_11; clear BK925; clear HB; have HO_11 := n0_; have BK925 := n1_; have HB := n2_; have BK946 := n3_; have GW946 := n4_; have GE946 := n5_; have NB925_946 := n6_; have NB946_925 := n7_; clear n0_ n1_ n2_ n3_ n4_ n5_ n6_ n7_; clear hb hbox hg; have hnb91 := NB946_925.out; have hnc91 := NB925_946.out; obtain ⟨hcz92_0, hcz92_1⟩ := cz2 BK946.out; obtain ⟨hfz92_0, hfz92_1⟩ := fz2 BK946.out)))
               go_ret
               exact ⟨by first | rfl | (simp [errW_none, errW_some] <;> rfl) | (simp only [← hji69]; first | rfl | (simp [errW_none, errW_some] <;> rfl)) | (simp [*, errW_none, errW_some] <;> rfl), uB⟩
             ·replace c74 := Bool.eq_false_iff.mpr c74
              subst c74
              have H1 : (quinarialaw02_ChannelBetter.l0 kj69 l1 a2 l4 t932 t936 (wrap64 (x14_3 + 1)) l0_0 l0_1) = some r := by rw [if_neg (show ¬ (false = true) by decide)] at H; exact H
              clear H
              have H := H1
              clear H1
              have H' := Aside0.mk H
              clear H
              go_wp2
              repeat (go_quiet (fail); try go_wp2)
              go_roundg kj69
              case measure => have := HJ5.out; have := HJ52.out; have := HK3.out; have := HJ69.out; omega
              case rel => exact ⟨(wrap64 (x14_3 + 1)), u0, H', ⟨by have := HJ5.out; have := HJ52.out; have := HK3.out; have := HJ69.out; omega⟩, ⟨uR HO_11.out⟩, ⟨uK BK925.out⟩, ⟨uB⟩⟩
          ·rw [if_neg c66] at H
           replace c66 := decide_eq_false c66
           replace H := Option.bind_eq_some_iff.mp H
           obtain ⟨t947, A930, H⟩ := H
           replace H : (if t936 = true then ((quinariaref02_Sum.f k3 l4).bind fun t948 => (if t948 < t947 then ((quinarialaw02_known.f k3).bind fun t949 => (some t949)) else (if t948 = t947 then ((quinariaref02_Before.f k3 l4 t932).bind fun t950 => (if t950 = true then (some false) else ((quinarialaw02_known.f k3).bind fun t951 => (some t951)))) else (some false)))) else ((quinarialaw02_known.f k3).bind fun t952 => (some t952))) = some r := H
           have A93 := Aside0.mk A930
           clear A930
           by_cases c94 : t936 = true
           ·subst c94
            have H1 : ((quinariaref02_Sum.f k3 l4).bind fun t948 => (if t948 < t947 then ((quinarialaw02_known.f k3).bind fun t949 => (some t949)) else (if t948 = t947 then ((quinariaref02_Before.f k3 l4 t932).bind fun t950 => (if t950 = true then (some false) else ((quinarialaw02_known.f k3).bind fun t951 => (some t951)))) else (some false)))) = some r := by rw [if_pos rfl] at H; exact H
            clear H
            have H := H1
            clear H1
            replace H := Option.bind_eq_some_iff.mp H
            obtain ⟨t948, A950, H⟩ := H
            replace H : (if t948 < t947 then ((quinarialaw02_known.f k3).bind fun t949 => (some t949)) else (if t948 = t947 then ((quinariaref02_Before.f k3 l4 t932).bind fun t950 => (if t950 = true then (some false) else ((quinarialaw02_known.f k3).bind fun t951 => (some t951)))) else (some false))) = some r := H
            have A95 := Aside0.mk A950
            clear A950
            by_cases c96 : t948 < t947
            ·rw [if_pos c96] at H
             replace c96 := decide_eq_true c96
             replace H := Option.bind_eq_some_iff.mp H
             obtain ⟨t949, A970, H⟩ := H
             replace H : (some t949) = some r := H
             have A97 := Aside0.mk A970
             clear A970
             obtain rfl := Option.some.inj H
             obtain ⟨Ao98, co98, eo98⟩ := Kd.R_slice HO_11.out
             subst eo98
             go_wp2_with (first | (go_at_call 36; (with_reducible refine (quinariaref02_Sum.calls k3 _ _ t932 t947 _ ?side1 ?side2 A93.out).mono ?_); (case side1 => repeat (first | exact (Kd.R_reads' HO_11.out).2.2 | (with_reducible refine Kd.C_alloc ?_ _) | (with_reducible refine Kd.C_drewN ?_ _) | (with_reducible refine Kd.C_drew ?_))); (case side2 => exact (Kd.R_reads' HO_11.out).2.1); rintro e w99 ⟨rfl, hb⟩; replace HO_11 := Aside0.mk (Kd.R_below (uR HO_11.out) hb); replace BK925 := Aside0.mk (blk_below (uK BK925.out) hb); replace HB := Aside0.mk (below_step uB hb); (try clear hb); (try clear hb2); (try clear hk); (try clear hi)) | (go_at_call 36; (with_reducible refine (quinariaref02_Sum.calls k3 _ _ l4 t948 _ ?side1 ?side2 A95.out).mono ?_); (case side1 => repeat (first | exact (Kd.C_below HR4.out HB.out) | (with_reducible refine Kd.C_alloc ?_ _) | (with_reducible refine Kd.C_drewN ?_ _) | (with_reducible refine Kd.C_drew ?_))); (case side2 => exact HC4.out); rintro e w100 ⟨rfl, hb⟩; replace HO_11 := Aside0.mk (Kd.R_below (uR HO_11.out) hb); replace BK925 := Aside0.mk (blk_below (uK BK925.out) hb); replace HB := Aside0.mk (below_step uB hb); (try clear hb); (try clear hb2); (try clear hk); (try clear hi)) | (go_at_call 17; (with_reducible refine (quinarialaw02_known.calls k3  t949 _ ?sideT A97.out).mono ?_); (case sideT => exact HT.out.below uB); rintro e w101 ⟨rfl, hb⟩; replace HO_11 := Aside0.mk (Kd.R_below (uR HO_11.out) hb); replace BK925 := Aside0.mk (blk_below (uK BK925.out) hb); replace HB := Aside0.mk (below_step uB hb); (try clear hb); (try clear hb2); (try clear hk); (try clear hi)))
             repeat (go_quiet (first | (go_at_call 36; (with_reducible refine (quinariaref02_Sum.calls k3 _ _ t932 t947 _ ?side1 ?side2 A93.out).mono ?_); (case side1 => repeat (first | exact (Kd.R_reads' HO_11.out).2.2 | (with_reducible refine Kd.C_alloc ?_ _) | (with_reducible refine Kd.C_drewN ?_ _) | (with_reducible refine Kd.C_drew ?_))); (case side2 => exact (Kd.R_reads' HO_11.out).2.1); rintro e w99 ⟨rfl, hb⟩; replace HO_11 := Aside0.mk (Kd.R_below (uR HO_11.out) hb); replace BK925 := Aside0.mk (blk_below (uK BK925.out) hb); replace HB := Aside0.mk (below_step uB hb); (try clear hb); (try clear hb2); (try clear hk); (try clear hi)) | (go_at_call 36; (with_reducible refine (quinariaref02_Sum.calls k3 _ _ l4 t948 _ ?side1 ?side2 A95.out).mono ?_); (case side1 => repeat (first | exact (Kd.C_below HR4.out HB.out) | (with_reducible refine Kd.C_alloc ?_ _) | (with_reducible refine Kd.C_drewN ?_ _) | (with_reducible refine Kd.C_drew ?_))); (case side2 => exact HC4.out); rintro e w100 ⟨rfl, hb⟩; replace HO_11 := Aside0.mk (Kd.R_below (uR HO_11.out) hb); replace BK925 := Aside0.mk (blk_below (uK BK925.out) hb); replace HB := Aside0.mk (below_step uB hb); (try clear hb); (try clear hb2); (try clear hk); (try clear hi)) | (go_at_call 17; (with_reducible refine (quinarialaw02_known.calls k3  t949 _ ?sideT A97.out).mono ?_); (case sideT => exact HT.out.below uB); rintro e w101 ⟨rfl, hb⟩; replace HO_11 := Aside0.mk (Kd.R_below (uR HO_11.out) hb); replace BK925 := Aside0.mk (blk_below (uK BK925.out) hb); replace HB := Aside0.mk (below_step uB hb); (try clear hb); (try clear hb2); (try clear hk); (try clear hi))); try go_wp2_with (first | (go_at_call 36; (with_reducible refine (quinariaref02_Sum.calls k3 _ _ t932 t947 _ ?side1 ?side2 A93.out).mono ?_); (case side1 => repeat (first | exact (Kd.R_reads' HO_11.out).2.2 | (with_reducible refine Kd.C_alloc ?_ _) | (with_reducible refine Kd.C_drewN ?_ _) | (with_reducible refine Kd.C_drew ?_))); (case side2 => exact (Kd.R_reads' HO_11.out).2.1); rintro e w99 ⟨rfl, hb⟩; replace HO_11 := Aside0.mk (Kd.R_below (uR HO_11.out) hb); replace BK925 := Aside0.mk (blk_below (uK BK925.out) hb); replace HB := Aside0.mk (below_step uB hb); (try clear hb); (try clear hb2); (try clear hk); (try clear hi)) | (go_at_call 36; (with_reducible refine (quinariaref02_Sum.calls k3 _ _ l4 t948 _ ?side1 ?side2 A95.out).mono ?_); (case side1 => repeat (first | exact (Kd.C_below HR4.out HB.out) | (with_reducible refine Kd.C_alloc ?_ _) | (with_reducible refine Kd.C_drewN ?_ _) | (with_reducible refine Kd.C_drew ?_))); (case side2 => exact HC4.out); rintro e w100 ⟨rfl, hb⟩; replace HO_11 := Aside0.mk (Kd.R_below (uR HO_11.out) hb); replace BK925 := Aside0.mk (blk_below (uK BK925.out) hb); replace HB := Aside0.mk (below_step uB hb); (try clear hb); (try clear hb2); (try clear hk); (try clear hi)) | (go_at_call 17; (with_reducible refine (quinarialaw02_known.calls k3  t949 _ ?sideT A97.out).mono ?_); (case sideT => exact HT.out.below uB); rintro e w101 ⟨rfl, hb⟩; replace HO_11 := Aside0.mk (Kd.R_below (uR HO_11.out) hb); replace BK925 := Aside0.mk (blk_below (uK BK925.out) hb); replace HB := Aside0.mk (below_step uB hb); (try clear hb); (try clear hb2); (try clear hk); (try clear hi))))
             go_ret
             exact ⟨uE, uB⟩
            ·rw [if_neg c96] at H
             replace c96 := decide_eq_false c96
             by_cases c102 : t948 = t947
             ·rw [if_pos c102] at H
              have c102b0 : (t948 == t947) = true := beq_iff_eq.mpr c102
              have c102b1 : (t948 != t947) = false := bne_eq_false_iff_eq.mpr c102
              clear c102
              replace H := Option.bind_eq_some_iff.mp H
              obtain ⟨t950, A1030, H⟩ := H
              replace H : (if t950 = true then (some false) else ((quinarialaw02_known.f k3).bind fun t951 => (some t951))) = some r := H
              have A103 := Aside0.mk A1030
              clear A1030
              by_cases c104 : t950 = true
              ·subst c104
               have H1 : (some false) = some r := by rw [if_pos rfl] at H; exact H
               clear H
               have H := H1
               clear H1
               obtain rfl := Option.some.inj H
               obtain ⟨Ao105, co105, eo105⟩ := Kd.R_slice HO_11.out
               subst eo105
               go_wp2_with (first | (go_at_call 36; (with_reducible refine (quinariaref02_Sum.calls k3 _ _ t932 t947 _ ?side1 ?side2 A93.out).mono ?_); (case side1 => repeat (first | exact (Kd.R_reads' HO_11.out).2.2 | (with_reducible refine Kd.C_alloc ?_ _) | (with_reducible refine Kd.C_drewN ?_ _) | (with_reducible refine Kd.C_drew ?_))); (case side2 => exact (Kd.R_reads' HO_11.out).2.1); rintro e w106 ⟨rfl, hb⟩; replace HO_11 := Aside0.mk (Kd.R_below (uR HO_11.out) hb); replace BK925 := Aside0.mk (blk_below (uK BK925.out) hb); replace HB := Aside0.mk (below_step uB hb); (try clear hb); (try clear hb2); (try clear hk); (try clear hi)) | (go_at_call 36; (with_reducible refine (quinariaref02_Sum.calls k3 _ _ l4 t948 _ ?side1 ?side2 A95.out).mono ?_); (case side1 => repeat (first | exact (Kd.C_below HR4.out HB.out) | (with_reducible refine Kd.C_alloc ?_ _) | (with_reducible refine Kd.C_drewN ?_ _) | (with_reducible refine Kd.C_drew ?_))); (case side2 => exact HC4.out); rintro e w107 ⟨rfl, hb⟩; replace HO_11 := Aside0.mk (Kd.R_below (uR HO_11.out) hb); replace BK925 := Aside0.mk (blk_below (uK BK925.out) hb); replace HB := Aside0.mk (below_step uB hb); (try clear hb); (try clear hb2); (try clear hk); (try clear hi)) | (go_at_call 37; (with_reducible refine (quinariaref02_Before.calls k3 _ _ l4 _ _ t932 true _ ?side1 ?side2 ?side3 ?side4 A103.out).mono ?_); (case side1 => repeat (first | exact (Kd.C_below HR4.out HB.out) | (with_reducible refine Kd.C_alloc ?_ _) | (with_reducible refine Kd.C_drewN ?_ _) | (with_reducible refine Kd.C_drew ?_))); (case side2 => exact HC4.out); (case side3 => repeat (first | exact (Kd.R_reads' HO_11.out).2.2 | (with_reducible refine Kd.C_alloc ?_ _) | (with_reducible refine Kd.C_drewN ?_ _) | (with_reducible refine Kd.C_drew ?_))); (case side4 => exact (Kd.R_reads' HO_11.out).2.1); rintro e w' ⟨rfl, ⟨nd, rfl⟩⟩; (try first | exact ⟨rfl, _, World.drewN_drewN _ _ _⟩ | exact ⟨rfl, _, Eq.trans (World.drewN_drewN _ _ _) (congrArg (World.drewN _) (Nat.add_assoc _ _ _))⟩)))
               repeat (go_quiet (first | (go_at_call 36; (with_reducible refine (quinariaref02_Sum.calls k3 _ _ t932 t947 _ ?side1 ?side2 A93.out).mono ?_); (case side1 => repeat (first | exact (Kd.R_reads' HO_11.out).2.2 | (with_reducible refine Kd.C_alloc ?_ _) | (with_reducible refine Kd.C_drewN ?_ _) | (with_reducible refine Kd.C_drew ?_))); (case side2 => exact (Kd.R_reads' HO_11.out).2.1); rintro e w106 ⟨rfl, hb⟩; replace HO_11 := Aside0.mk (Kd.R_below (uR HO_11.out) hb); replace BK925 := Aside0.mk (blk_below (uK BK925.out) hb); replace HB := Aside0.mk (below_step uB hb); (try clear hb); (try clear hb2); (try clear hk); (try clear hi)) | (go_at_call 36; (with_reducible refine (quinariaref02_Sum.calls k3 _ _ l4 t948 _ ?side1 ?side2 A95.out).mono ?_); (case side1 => repeat (first | exact (Kd.C_below HR4.out HB.out) | (with_reducible refine Kd.C_alloc ?_ _) | (with_reducible refine Kd.C_drewN ?_ _) | (with_reducible refine Kd.C_drew ?_))); (case side2 => exact HC4.out); rintro e w107 ⟨rfl, hb⟩; replace HO_11 := Aside0.mk (Kd.R_below (uR HO_11.out) hb); replace BK925 := Aside0.mk (blk_below (uK BK925.out) hb); replace HB := Aside0.mk (below_step uB hb); (try clear hb); (try clear hb2); (try clear hk); (try clear hi)) | (go_at_call 37; (with_reducible refine (quinariaref02_Before.calls k3 _ _ l4 _ _ t932 true _ ?side1 ?side2 ?side3 ?side4 A103.out).mono ?_); (case side1 => repeat (first | exact (Kd.C_below HR4.out HB.out) | (with_reducible refine Kd.C_alloc ?_ _) | (with_reducible refine Kd.C_drewN ?_ _) | (with_reducible refine Kd.C_drew ?_))); (case side2 => exact HC4.out); (case side3 => repeat (first | exact (Kd.R_reads' HO_11.out).2.2 | (with_reducible refine Kd.C_alloc ?_ _) | (with_reducible refine Kd.C_drewN ?_ _) | (with_reducible refine Kd.C_drew ?_))); (case side4 => exact (Kd.R_reads' HO_11.out).2.1); rintro e w' ⟨rfl, ⟨nd, rfl⟩⟩; (try first | exact ⟨rfl, _, World.drewN_drewN _ _ _⟩ | exact ⟨rfl, _, Eq.trans (World.drewN_drewN _ _ _) (congrArg (World.drewN _) (Nat.add_assoc _ _ _))⟩))); try go_wp2_with (first | (go_at_call 36; (with_reducible refine (quinariaref02_Sum.calls k3 _ _ t932 t947 _ ?side1 ?side2 A93.out).mono ?_); (case side1 => repeat (first | exact (Kd.R_reads' HO_11.out).2.2 | (with_reducible refine Kd.C_alloc ?_ _) | (with_reducible refine Kd.C_drewN ?_ _) | (with_reducible refine Kd.C_drew ?_))); (case side2 => exact (Kd.R_reads' HO_11.out).2.1); rintro e w106 ⟨rfl, hb⟩; replace HO_11 := Aside0.mk (Kd.R_below (uR HO_11.out) hb); replace BK925 := Aside0.mk (blk_below (uK BK925.out) hb); replace HB := Aside0.mk (below_step uB hb); (try clear hb); (try clear hb2); (try clear hk); (try clear hi)) | (go_at_call 36; (with_reducible refine (quinariaref02_Sum.calls k3 _ _ l4 t948 _ ?side1 ?side2 A95.out).mono ?_); (case side1 => repeat (first | exact (Kd.C_below HR4.out HB.out) | (with_reducible refine Kd.C_alloc ?_ _) | (with_reducible refine Kd.C_drewN ?_ _) | (with_reducible refine Kd.C_drew ?_))); (case side2 => exact HC4.out); rintro e w107 ⟨rfl, hb⟩; replace HO_11 := Aside0.mk (Kd.R_below (uR HO_11.out) hb); replace BK925 := Aside0.mk (blk_below (uK BK925.out) hb); replace HB := Aside0.mk (below_step uB hb); (try clear hb); (try clear hb2); (try clear hk); (try clear hi)) | (go_at_call 37; (with_reducible refine (quinariaref02_Before.calls k3 _ _ l4 _ _ t932 true _ ?side1 ?side2 ?side3 ?side4 A103.out).mono ?_); (case side1 => repeat (first | exact (Kd.C_below HR4.out HB.out) | (with_reducible refine Kd.C_alloc ?_ _) | (with_reducible refine Kd.C_drewN ?_ _) | (with_reducible refine Kd.C_drew ?_))); (case side2 => exact HC4.out); (case side3 => repeat (first | exact (Kd.R_reads' HO_11.out).2.2 | (with_reducible refine Kd.C_alloc ?_ _) | (with_reducible refine Kd.C_drewN ?_ _) | (with_reducible refine Kd.C_drew ?_))); (case side4 => exact (Kd.R_reads' HO_11.out).2.1); rintro e w' ⟨rfl, ⟨nd, rfl⟩⟩; (try first | exact ⟨rfl, _, World.drewN_drewN _ _ _⟩ | exact ⟨rfl, _, Eq.trans (World.drewN_drewN _ _ _) (congrArg (World.drewN _) (Nat.add_assoc _ _ _))⟩))))
               go_ret
               exact ⟨uE, uB⟩
              ·replace c104 := Bool.eq_false_iff.mpr c104
               subst c104
               have H1 : ((quinarialaw02_known.f k3).bind fun t951 => (some t951)) = some r := by rw [if_neg (show ¬ (false = true) by decide)] at H; exact H
               clear H
               have H := H1
               clear H1
               replace H := Option.bind_eq_some_iff.mp H
               obtain ⟨t951, A1080, H⟩ := H
               replace H : (some t951) = some r := H
               have A108 := Aside0.mk A1080
               clear A1080
               obtain rfl := Option.some.inj H
               obtain ⟨Ao109, co109, eo109⟩ := Kd.R_slice HO_11.out
               subst eo109
               go_wp2_with (first | (go_at_call 36; (with_reducible refine (quinariaref02_Sum.calls k3 _ _ t932 t947 _ ?side1 ?side2 A93.out).mono ?_); (case side1 => repeat (first | exact (Kd.R_reads' HO_11.out).2.2 | (with_reducible refine Kd.C_alloc ?_ _) | (with_reducible refine Kd.C_drewN ?_ _) | (with_reducible refine Kd.C_drew ?_))); (case side2 => exact (Kd.R_reads' HO_11.out).2.1); rintro e w110 ⟨rfl, hb⟩; replace HO_11 := Aside0.mk (Kd.R_below (uR HO_11.out) hb); replace BK925 := Aside0.mk (blk_below (uK BK925.out) hb); replace HB := Aside0.mk (below_step uB hb); (try clear hb); (try clear hb2); (try clear hk); (try clear hi)) | (go_at_call 36; (with_reducible refine (quinariaref02_Sum.calls k3 _ _ l4 t948 _ ?side1 ?side2 A95.out).mono ?_); (case side1 => repeat (first | exact (Kd.C_below HR4.out HB.out) | (with_reducible refine Kd.C_alloc ?_ _) | (with_reducible refine Kd.C_drewN ?_ _) | (with_reducible refine Kd.C_drew ?_))); (case side2 => exact HC4.out); rintro e w111 ⟨rfl, hb⟩; replace HO_11 := Aside0.mk (Kd.R_below (uR HO_11.out) hb); replace BK925 := Aside0.mk (blk_below (uK BK925.out) hb); replace HB := Aside0.mk (below_step uB hb); (try clear hb); (try clear hb2); (try clear hk); (try clear hi)) | (go_at_call 37; (with_reducible refine (quinariaref02_Before.calls k3 _ _ l4 _ _ t932 false _ ?side1 ?side2 ?side3 ?side4 A103.out).mono ?_); (case side1 => repeat (first | exact (Kd.C_below HR4.out HB.out) | (with_reducible refine Kd.C_alloc ?_ _) | (with_reducible refine Kd.C_drewN ?_ _) | (with_reducible refine Kd.C_drew ?_))); (case side2 => exact HC4.out); (case side3 => repeat (first | exact (Kd.R_reads' HO_11.out).2.2 | (with_reducible refine Kd.C_alloc ?_ _) | (with_reducible refine Kd.C_drewN ?_ _) | (with_reducible refine Kd.C_drew ?_))); (case side4 => exact (Kd.R_reads' HO_11.out).2.1); rintro e w' ⟨rfl, ⟨nd, rfl⟩⟩; (try first | exact ⟨rfl, _, World.drewN_drewN _ _ _⟩ | exact ⟨rfl, _, Eq.trans (World.drewN_drewN _ _ _) (congrArg (World.drewN _) (Nat.add_assoc _ _ _))⟩)) | (go_at_call 17; (with_reducible refine (quinarialaw02_known.calls k3  t951 _ ?sideT A108.out).mono ?_); (case sideT => exact HT.out.below uB); rintro e w112 ⟨rfl, hb⟩; replace HO_11 := Aside0.mk (Kd.R_below (uR HO_11.out) hb); replace BK925 := Aside0.mk (blk_below (uK BK925.out) hb); replace HB := Aside0.mk (below_step uB hb); (try clear hb); (try clear hb2); (try clear hk); (try clear hi)))
               repeat (go_quiet (first | (go_at_call 36; (with_reducible refine (quinariaref02_Sum.calls k3 _ _ t932 t947 _ ?side1 ?side2 A93.out).mono ?_); (case side1 => repeat (first | exact (Kd.R_reads' HO_11.out).2.2 | (with_reducible refine Kd.C_alloc ?_ _) | (with_reducible refine Kd.C_drewN ?_ _) | (with_reducible refine Kd.C_drew ?_))); (case side2 => exact (Kd.R_reads' HO_11.out).2.1); rintro e w110 ⟨rfl, hb⟩; replace HO_11 := Aside0.mk (Kd.R_below (uR HO_11.out) hb); replace BK925 := Aside0.mk (blk_below (uK BK925.out) hb); replace HB := Aside0.mk (below_step uB hb); (try clear hb); (try clear hb2); (try clear hk); (try clear hi)) | (go_at_call 36; (with_reducible refine (quinariaref02_Sum.calls k3 _ _ l4 t948 _ ?side1 ?side2 A95.out).mono ?_); (case side1 => repeat (first | exact (Kd.C_below HR4.out HB.out) | (with_reducible refine Kd.C_alloc ?_ _) | (with_reducible refine Kd.C_drewN ?_ _) | (with_reducible refine Kd.C_drew ?_))); (case side2 => exact HC4.out); rintro e w111 ⟨rfl, hb⟩; replace HO_11 := Aside0.mk (Kd.R_below (uR HO_11.out) hb); replace BK925 := Aside0.mk (blk_below (uK BK925.out) hb); replace HB := Aside0.mk (below_step uB hb); (try clear hb); (try clear hb2); (try clear hk); (try clear hi)) | (go_at_call 37; (with_reducible refine (quinariaref02_Before.calls k3 _ _ l4 _ _ t932 false _ ?side1 ?side2 ?side3 ?side4 A103.out).mono ?_); (case side1 => repeat (first | exact (Kd.C_below HR4.out HB.out) | (with_reducible refine Kd.C_alloc ?_ _) | (with_reducible refine Kd.C_drewN ?_ _) | (with_reducible refine Kd.C_drew ?_))); (case side2 => exact HC4.out); (case side3 => repeat (first | exact (Kd.R_reads' HO_11.out).2.2 | (with_reducible refine Kd.C_alloc ?_ _) | (with_reducible refine Kd.C_drewN ?_ _) | (with_reducible refine Kd.C_drew ?_))); (case side4 => exact (Kd.R_reads' HO_11.out).2.1); rintro e w' ⟨rfl, ⟨nd, rfl⟩⟩; (try first | exact ⟨rfl, _, World.drewN_drewN _ _ _⟩ | exact ⟨rfl, _, Eq.trans (World.drewN_drewN _ _ _) (congrArg (World.drewN _) (Nat.add_assoc _ _ _))⟩)) | (go_at_call 17; (with_reducible refine (quinarialaw02_known.calls k3  t951 _ ?sideT A108.out).mono ?_); (case sideT => exact HT.out.below uB); rintro e w112 ⟨rfl, hb⟩; replace HO_11 := Aside0.mk (Kd.R_below (uR HO_11.out) hb); replace BK925 := Aside0.mk (blk_below (uK BK925.out) hb); replace HB := Aside0.mk (below_step uB hb); (try clear hb); (try clear hb2); (try clear hk); (try clear hi))); try go_wp2_with (first | (go_at_call 36; (with_reducible refine (quinariaref02_Sum.calls k3 _ _ t932 t947 _ ?side1 ?side2 A93.out).mono ?_); (case side1 => repeat (first | exact (Kd.R_reads' HO_11.out).2.2 | (with_reducible refine Kd.C_alloc ?_ _) | (with_reducible refine Kd.C_drewN ?_ _) | (with_reducible refine Kd.C_drew ?_))); (case side2 => exact (Kd.R_reads' HO_11.out).2.1); rintro e w110 ⟨rfl, hb⟩; replace HO_11 := Aside0.mk (Kd.R_below (uR HO_11.out) hb); replace BK925 := Aside0.mk (blk_below (uK BK925.out) hb); replace HB := Aside0.mk (below_step uB hb); (try clear hb); (try clear hb2); (try clear hk); (try clear hi)) | (go_at_call 36; (with_reducible refine (quinariaref02_Sum.calls k3 _ _ l4 t948 _ ?side1 ?side2 A95.out).mono ?_); (case side1 => repeat (first | exact (Kd.C_below HR4.out HB.out) | (with_reducible refine Kd.C_alloc ?_ _) | (with_reducible refine Kd.C_drewN ?_ _) | (with_reducible refine Kd.C_drew ?_))); (case side2 => exact HC4.out); rintro e w111 ⟨rfl, hb⟩; replace HO_11 := Aside0.mk (Kd.R_below (uR HO_11.out) hb); replace BK925 := Aside0.mk (blk_below (uK BK925.out) hb); replace HB := Aside0.mk (below_step uB hb); (try clear hb); (try clear hb2); (try clear hk); (try clear hi)) | (go_at_call 37; (with_reducible refine (quinariaref02_Before.calls k3 _ _ l4 _ _ t932 false _ ?side1 ?side2 ?side3 ?side4 A103.out).mono ?_); (case side1 => repeat (first | exact (Kd.C_below HR4.out HB.out) | (with_reducible refine Kd.C_alloc ?_ _) | (with_reducible refine Kd.C_drewN ?_ _) | (with_reducible refine Kd.C_drew ?_))); (case side2 => exact HC4.out); (case side3 => repeat (first | exact (Kd.R_reads' HO_11.out).2.2 | (with_reducible refine Kd.C_alloc ?_ _) | (with_reducible refine Kd.C_drewN ?_ _) | (with_reducible refine Kd.C_drew ?_))); (case side4 => exact (Kd.R_reads' HO_11.out).2.1); rintro e w' ⟨rfl, ⟨nd, rfl⟩⟩; (try first | exact ⟨rfl, _, World.drewN_drewN _ _ _⟩ | exact ⟨rfl, _, Eq.trans (World.drewN_drewN _ _ _) (congrArg (World.drewN _) (Nat.add_assoc _ _ _))⟩)) | (go_at_call 17; (with_reducible refine (quinarialaw02_known.calls k3  t951 _ ?sideT A108.out).mono ?_); (case sideT => exact HT.out.below uB); rintro e w112 ⟨rfl, hb⟩; replace HO_11 := Aside0.mk (Kd.R_below (uR HO_11.out) hb); replace BK925 := Aside0.mk (blk_below (uK BK925.out) hb); replace HB := Aside0.mk (below_step uB hb); (try clear hb); (try clear hb2); (try clear hk); (try clear hi))))
               go_ret
               exact ⟨uE, uB⟩
             ·rw [if_neg c102] at H
              have c102b0 : (t948 == t947) = false := beq_eq_false_iff_ne.mpr c102
              have c102b1 : (t948 != t947) = true := bne_iff_ne.mpr c102
              obtain rfl := Option.some.inj H
              obtain ⟨Ao113, co113, eo113⟩ := Kd.R_slice HO_11.out
              subst eo113
              go_wp2_with (first | (go_at_call 36; (with_reducible refine (quinariaref02_Sum.calls k3 _ _ t932 t947 _ ?side1 ?side2 A93.out).mono ?_); (case side1 => repeat (first | exact (Kd.R_reads' HO_11.out).2.2 | (with_reducible refine Kd.C_alloc ?_ _) | (with_reducible refine Kd.C_drewN ?_ _) | (with_reducible refine Kd.C_drew ?_))); (case side2 => exact (Kd.R_reads' HO_11.out).2.1); rintro e w114 ⟨rfl, hb⟩; replace HO_11 := Aside0.mk (Kd.R_below (uR HO_11.out) hb); replace BK925 := Aside0.mk (blk_below (uK BK925.out) hb); replace HB := Aside0.mk (below_step uB hb); (try clear hb); (try clear hb2); (try clear hk); (try clear hi)) | (go_at_call 36; (with_reducible refine (quinariaref02_Sum.calls k3 _ _ l4 t948 _ ?side1 ?side2 A95.out).mono ?_); (case side1 => repeat (first | exact (Kd.C_below HR4.out HB.out) | (with_reducible refine Kd.C_alloc ?_ _) | (with_reducible refine Kd.C_drewN ?_ _) | (with_reducible refine Kd.C_drew ?_))); (case side2 => exact HC4.out); rintro e w115 ⟨rfl, hb⟩; replace HO_11 := Aside0.mk (Kd.R_below (uR HO_11.out) hb); replace BK925 := Aside0.mk (blk_below (uK BK925.out) hb); replace HB := Aside0.mk (below_step uB hb); (try clear hb); (try clear hb2); (try clear hk); (try clear hi)))
              repeat (go_quiet (first | (go_at_call 36; (with_reducible refine (quinariaref02_Sum.calls k3 _ _ t932 t947 _ ?side1 ?side2 A93.out).mono ?_); (case side1 => repeat (first | exact (Kd.R_reads' HO_11.out).2.2 | (with_reducible refine Kd.C_alloc ?_ _) | (with_reducible refine Kd.C_drewN ?_ _) | (with_reducible refine Kd.C_drew ?_))); (case side2 => exact (Kd.R_reads' HO_11.out).2.1); rintro e w114 ⟨rfl, hb⟩; replace HO_11 := Aside0.mk (Kd.R_below (uR HO_11.out) hb); replace BK925 := Aside0.mk (blk_below (uK BK925.out) hb); replace HB := Aside0.mk (below_step uB hb); (try clear hb); (try clear hb2); (try clear hk); (try clear hi)) | (go_at_call 36; (with_reducible refine (quinariaref02_Sum.calls k3 _ _ l4 t948 _ ?side1 ?side2 A95.out).mono ?_); (case side1 => repeat (first | exact (Kd.C_below HR4.out HB.out) | (with_reducible refine Kd.C_alloc ?_ _) | (with_reducible refine Kd.C_drewN ?_ _) | (with_reducible refine Kd.C_drew ?_))); (case side2 => exact HC4.out); rintro e w115 ⟨rfl, hb⟩; replace HO_11 := Aside0.mk (Kd.R_below (uR HO_11.out) hb); replace BK925 := Aside0.mk (blk_below (uK BK925.out) hb); replace HB := Aside0.mk (below_step uB hb); (try clear hb); (try clear hb2); (try clear hk); (try clear hi))); try go_wp2_with (first | (go_at_call 36; (with_reducible refine (quinariaref02_Sum.calls k3 _ _ t932 t947 _ ?side1 ?side2 A93.out).mono ?_); (case side1 => repeat (first | exact (Kd.R_reads' HO_11.out).2.2 | (with_reducible refine Kd.C_alloc ?_ _) | (with_reducible refine Kd.C_drewN ?_ _) | (with_reducible refine Kd.C_drew ?_))); (case side2 => exact (Kd.R_reads' HO_11.out).2.1); rintro e w114 ⟨rfl, hb⟩; replace HO_11 := Aside0.mk (Kd.R_below (uR HO_11.out) hb); replace BK925 := Aside0.mk (blk_below (uK BK925.out) hb); replace HB := Aside0.mk (below_step uB hb); (try clear hb); (try clear hb2); (try clear hk); (try clear hi)) | (go_at_call 36; (with_reducible refine (quinariaref02_Sum.calls k3 _ _ l4 t948 _ ?side1 ?side2 A95.out).mono ?_); (case side1 => repeat (first | exact (Kd.C_below HR4.out HB.out) | (with_reducible refine Kd.C_alloc ?_ _) | (with_reducible refine Kd.C_drewN ?_ _) | (with_reducible refine Kd.C_drew ?_))); (case side2 => exact HC4.out); rintro e w115 ⟨rfl, hb⟩; replace HO_11 := Aside0.mk (Kd.R_below (uR HO_11.out) hb); replace BK925 := Aside0.mk (blk_below (uK BK925.out) hb); replace HB := Aside0.mk (below_step uB hb); (try clear hb); (try clear hb2); (try clear hk); (try clear hi))))
              go_ret
              exact ⟨uE, uB⟩
           ·replace c94 := Bool.eq_false_iff.mpr c94
            subst c94
            have H1 : ((quinarialaw02_known.f k3).bind fun t952 => (some t952)) = some r := by rw [if_neg (show ¬ (false = true) by decide)] at H; exact H
            clear H
            have H := H1
            clear H1
            replace H := Option.bind_eq_some_iff.mp H
            obtain ⟨t952, A1160, H⟩ := H
            replace H : (some t952) = some r := H
            have A116 := Aside0.mk A1160
            clear A1160
            obtain rfl := Option.some.inj H
            obtain ⟨Ao117, co117, eo117⟩ := Kd.R_slice HO_11.out
            subst eo117
            go_wp2_with (first | (go_at_call 36; (with_reducible refine (quinariaref02_Sum.calls k3 _ _ t932 t947 _ ?side1 ?side2 A93.out).mono ?_); (case side1 => repeat (first | exact (Kd.R_reads' HO_11.out).2.2 | (with_reducible refine Kd.C_alloc ?_ _) | (with_reducible refine Kd.C_drewN ?_ _) | (with_reducible refine Kd.C_drew ?_))); (case side2 => exact (Kd.R_reads' HO_11.out).2.1); rintro e w118 ⟨rfl, hb⟩; replace HO_11 := Aside0.mk (Kd.R_below (uR HO_11.out) hb); replace BK925 := Aside0.mk (blk_below (uK BK925.out) hb); replace HB := Aside0.mk (below_step uB hb); (try clear hb); (try clear hb2); (try clear hk); (try clear hi)) | (go_at_call 17; (with_reducible refine (quinarialaw02_known.calls k3  t952 _ ?sideT A116.out).mono ?_); (case sideT => exact HT.out.below uB); rintro e w119 ⟨rfl, hb⟩; replace HO_11 := Aside0.mk (Kd.R_below (uR HO_11.out) hb); replace BK925 := Aside0.mk (blk_below (uK BK925.out) hb); replace HB := Aside0.mk (below_step uB hb); (try clear hb); (try clear hb2); (try clear hk); (try clear hi)))
            repeat (go_quiet (first | (go_at_call 36; (with_reducible refine (quinariaref02_Sum.calls k3 _ _ t932 t947 _ ?side1 ?side2 A93.out).mono ?_); (case side1 => repeat (first | exact (Kd.R_reads' HO_11.out).2.2 | (with_reducible refine Kd.C_alloc ?_ _) | (with_reducible refine Kd.C_drewN ?_ _) | (with_reducible refine Kd.C_drew ?_))); (case side2 => exact (Kd.R_reads' HO_11.out).2.1); rintro e w118 ⟨rfl, hb⟩; replace HO_11 := Aside0.mk (Kd.R_below (uR HO_11.out) hb); replace BK925 := Aside0.mk (blk_below (uK BK925.out) hb); replace HB := Aside0.mk (below_step uB hb); (try clear hb); (try clear hb2); (try clear hk); (try clear hi)) | (go_at_call 17; (with_reducible refine (quinarialaw02_known.calls k3  t952 _ ?sideT A116.out).mono ?_); (case sideT => exact HT.out.below uB); rintro e w119 ⟨rfl, hb⟩; replace HO_11 := Aside0.mk (Kd.R_below (uR HO_11.out) hb); replace BK925 := Aside0.mk (blk_below (uK BK925.out) hb); replace HB := Aside0.mk (below_step uB hb); (try clear hb); (try clear hb2); (try clear hk); (try clear hi))); try go_wp2_with (first | (go_at_call 36; (with_reducible refine (quinariaref02_Sum.calls k3 _ _ t932 t947 _ ?side1 ?side2 A93.out).mono ?_); (case side1 => repeat (first | exact (Kd.R_reads' HO_11.out).2.2 | (with_reducible refine Kd.C_alloc ?_ _) | (with_reducible refine Kd.C_drewN ?_ _) | (with_reducible refine Kd.C_drew ?_))); (case side2 => exact (Kd.R_reads' HO_11.out).2.1); rintro e w118 ⟨rfl, hb⟩; replace HO_11 := Aside0.mk (Kd.R_below (uR HO_11.out) hb); replace BK925 := Aside0.mk (blk_below (uK BK925.out) hb); replace HB := Aside0.mk (below_step uB hb); (try clear hb); (try clear hb2); (try clear hk); (try clear hi)) | (go_at_call 17; (with_reducible refine (quinarialaw02_known.calls k3  t952 _ ?sideT A116.out).mono ?_); (case sideT => exact HT.out.below uB); rintro e w119 ⟨rfl, hb⟩; replace HO_11 := Aside0.mk (Kd.R_below (uR HO_11.out) hb); replace BK925 := Aside0.mk (blk_below (uK BK925.out) hb); replace HB := Aside0.mk (below_step uB hb); (try clear hb); (try clear hb2); (try clear hk); (try clear hi))))
            go_ret
            exact ⟨uE, uB⟩
    ·rw [if_neg c52] at H
     have c52b0 : (t935 == 0) = false := beq_eq_false_iff_ne.mpr c52
     have c52b1 : (t935 != 0) = true := bne_iff_ne.mpr c52
     by_cases c120 : t935 = 5
     ·rw [if_pos c120] at H
      have c120b0 : (t935 == 5) = true := beq_iff_eq.mpr c120
      have c120b1 : (t935 != 5) = false := bne_eq_false_iff_eq.mpr c120
      clear c120
      by_cases c121 : t936 = true
      ·subst c121
       have H1 : (some false) = some r := by rw [if_pos rfl] at H; exact H
       clear H
       have H := H1
       clear H1
       obtain rfl := Option.some.inj H
       obtain ⟨hcz122_0, hcz122_1⟩ := cz2 BK925.out
       obtain ⟨hfz122_0, hfz122_1⟩ := fz2 BK925.out
       go_wp2_with (first | (go_at_call 32; (with_reducible refine (channel_Plan.calls _ _ l0_0 _ _ l0_1 _ _ l1 a2 a3 t932 t935 _ ?side1 ?side2 ?side3 ?side4 ?side5 ?side6 A50.out).mono ?_); (case side1 => repeat (first | exact (Kd.C_below HR0_0.out HB.out) | (with_reducible refine Kd.C_alloc ?_ _) | (with_reducible refine Kd.C_drewN ?_ _) | (with_reducible refine Kd.C_drew ?_))); (case side2 => exact HC0_0.out); (case side3 => repeat (first | exact (Kd.C_below HR0_1.out HB.out) | (with_reducible refine Kd.C_alloc ?_ _) | (with_reducible refine Kd.C_drewN ?_ _) | (with_reducible refine Kd.C_drew ?_))); (case side4 => exact HC0_1.out); (case side5 => repeat (first | exact (Kd.C_below HR1.out HB.out) | (with_reducible refine Kd.C_alloc ?_ _) | (with_reducible refine Kd.C_drewN ?_ _) | (with_reducible refine Kd.C_drew ?_))); (case side6 => exact HC1.out); rintro e w123 ⟨v933, rfl, ho0, hb⟩; have HO934 := Aside0.mk (Kd.R_lower ho0 (below_size uB)); replace BK925 := Aside0.mk (blk_below (uK BK925.out) hb); replace HB := Aside0.mk (below_step uB hb); (try clear hb); (try clear hb2); (try clear hk); (try clear hi); (try clear ho0); obtain ⟨hcz124_0, hcz124_1⟩ := cz2 BK925.out; obtain ⟨hfz124_0, hfz124_1⟩ := fz2 BK925.out) | (go_at_call 35; (with_reducible refine (quinariaref02_Planned.calls kj5 _ _ l0_0 _ _ l0_1 _ _ l1 a2 a3 _ _ l4 true _ ?side1 ?side2 ?side3 ?side4 ?side5 ?side6 ?side7 ?side8 A51.out).mono ?_); (case side1 => repeat (first | exact (Kd.C_below HR0_0.out HB.out) | (with_reducible refine Kd.C_alloc ?_ _) | (with_reducible refine Kd.C_drewN ?_ _) | (with_reducible refine Kd.C_drew ?_))); (case side2 => exact HC0_0.out); (case side3 => repeat (first | exact (Kd.C_below HR0_1.out HB.out) | (with_reducible refine Kd.C_alloc ?_ _) | (with_reducible refine Kd.C_drewN ?_ _) | (with_reducible refine Kd.C_drew ?_))); (case side4 => exact HC0_1.out); (case side5 => repeat (first | exact (Kd.C_below HR1.out HB.out) | (with_reducible refine Kd.C_alloc ?_ _) | (with_reducible refine Kd.C_drewN ?_ _) | (with_reducible refine Kd.C_drew ?_))); (case side6 => exact HC1.out); (case side7 => repeat (first | exact (Kd.C_below HR4.out HB.out) | (with_reducible refine Kd.C_alloc ?_ _) | (with_reducible refine Kd.C_drewN ?_ _) | (with_reducible refine Kd.C_drew ?_))); (case side8 => exact HC4.out); rintro e w125 ⟨rfl, hb⟩; replace HO934 := Aside0.mk (Kd.R_below (uR HO934.out) hb); replace BK925 := Aside0.mk (blk_below (uK BK925.out) hb); replace HB := Aside0.mk (below_step uB hb); (try clear hb); (try clear hb2); (try clear hk); (try clear hi)))
       repeat (go_quiet (first | (go_at_call 32; (with_reducible refine (channel_Plan.calls _ _ l0_0 _ _ l0_1 _ _ l1 a2 a3 t932 t935 _ ?side1 ?side2 ?side3 ?side4 ?side5 ?side6 A50.out).mono ?_); (case side1 => repeat (first | exact (Kd.C_below HR0_0.out HB.out) | (with_reducible refine Kd.C_alloc ?_ _) | (with_reducible refine Kd.C_drewN ?_ _) | (with_reducible refine Kd.C_drew ?_))); (case side2 => exact HC0_0.out); (case side3 => repeat (first | exact (Kd.C_below HR0_1.out HB.out) | (with_reducible refine Kd.C_alloc ?_ _) | (with_reducible refine Kd.C_drewN ?_ _) | (with_reducible refine Kd.C_drew ?_))); (case side4 => exact HC0_1.out); (case side5 => repeat (first | exact (Kd.C_below HR1.out HB.out) | (with_reducible refine Kd.C_alloc ?_ _) | (with_reducible refine Kd.C_drewN ?_ _) | (with_reducible refine Kd.C_drew ?_))); (case side6 => exact HC1.out); rintro e w123 ⟨v933, rfl, ho0, hb⟩; have HO934 := Aside0.mk (Kd.R_lower ho0 (below_size uB)); replace BK925 := Aside0.mk (blk_below (uK BK925.out) hb); replace HB := Aside0.mk (below_step uB hb); (try clear hb); (try clear hb2); (try clear hk); (try clear hi); (try clear ho0); obtain ⟨hcz124_0, hcz124_1⟩ := cz2 BK925.out; obtain ⟨hfz124_0, hfz124_1⟩ := fz2 BK925.out) | (go_at_call 35; (with_reducible refine (quinariaref02_Planned.calls kj5 _ _ l0_0 _ _ l0_1 _ _ l1 a2 a3 _ _ l4 true _ ?side1 ?side2 ?side3 ?side4 ?side5 ?side6 ?side7 ?side8 A51.out).mono ?_); (case side1 => repeat (first | exact (Kd.C_below HR0_0.out HB.out) | (with_reducible refine Kd.C_alloc ?_ _) | (with_reducible refine Kd.C_drewN ?_ _) | (with_reducible refine Kd.C_drew ?_))); (case side2 => exact HC0_0.out); (case side3 => repeat (first | exact (Kd.C_below HR0_1.out HB.out) | (with_reducible refine Kd.C_alloc ?_ _) | (with_reducible refine Kd.C_drewN ?_ _) | (with_reducible refine Kd.C_drew ?_))); (case side4 => exact HC0_1.out); (case side5 => repeat (first | exact (Kd.C_below HR1.out HB.out) | (with_reducible refine Kd.C_alloc ?_ _) | (with_reducible refine Kd.C_drewN ?_ _) | (with_reducible refine Kd.C_drew ?_))); (case side6 => exact HC1.out); (case side7 => repeat (first | exact (Kd.C_below HR4.out HB.out) | (with_reducible refine Kd.C_alloc ?_ _) | (with_reducible refine Kd.C_drewN ?_ _) | (with_reducible refine Kd.C_drew ?_))); (case side8 => exact HC4.out); rintro e w125 ⟨rfl, hb⟩; replace HO934 := Aside0.mk (Kd.R_below (uR HO934.out) hb); replace BK925 := Aside0.mk (blk_below (uK BK925.out) hb); replace HB := Aside0.mk (below_step uB hb); (try clear hb); (try clear hb2); (try clear hk); (try clear hi))); try go_wp2_with (first | (go_at_call 32; (with_reducible refine (channel_Plan.calls _ _ l0_0 _ _ l0_1 _ _ l1 a2 a3 t932 t935 _ ?side1 ?side2 ?side3 ?side4 ?side5 ?side6 A50.out).mono ?_); (case side1 => repeat (first | exact (Kd.C_below HR0_0.out HB.out) | (with_reducible refine Kd.C_alloc ?_ _) | (with_reducible refine Kd.C_drewN ?_ _) | (with_reducible refine Kd.C_drew ?_))); (case side2 => exact HC0_0.out); (case side3 => repeat (first | exact (Kd.C_below HR0_1.out HB.out) | (with_reducible refine Kd.C_alloc ?_ _) | (with_reducible refine Kd.C_drewN ?_ _) | (with_reducible refine Kd.C_drew ?_))); (case side4 => exact HC0_1.out); (case side5 => repeat (first | exact (Kd.C_below HR1.out HB.out) | (with_reducible refine Kd.C_alloc ?_ _) | (with_reducible refine Kd.C_drewN ?_ _) | (with_reducible refine Kd.C_drew ?_))); (case side6 => exact HC1.out); rintro e w123 ⟨v933, rfl, ho0, hb⟩; have HO934 := Aside0.mk (Kd.R_lower ho0 (below_size uB)); replace BK925 := Aside0.mk (blk_below (uK BK925.out) hb); replace HB := Aside0.mk (below_step uB hb); (try clear hb); (try clear hb2); (try clear hk); (try clear hi); (try clear ho0); obtain ⟨hcz124_0, hcz124_1⟩ := cz2 BK925.out; obtain ⟨hfz124_0, hfz124_1⟩ := fz2 BK925.out) | (go_at_call 35; (with_reducible refine (quinariaref02_Planned.calls kj5 _ _ l0_0 _ _ l0_1 _ _ l1 a2 a3 _ _ l4 true _ ?side1 ?side2 ?side3 ?side4 ?side5 ?side6 ?side7 ?side8 A51.out).mono ?_); (case side1 => repeat (first | exact (Kd.C_below HR0_0.out HB.out) | (with_reducible refine Kd.C_alloc ?_ _) | (with_reducible refine Kd.C_drewN ?_ _) | (with_reducible refine Kd.C_drew ?_))); (case side2 => exact HC0_0.out); (case side3 => repeat (first | exact (Kd.C_below HR0_1.out HB.out) | (with_reducible refine Kd.C_alloc ?_ _) | (with_reducible refine Kd.C_drewN ?_ _) | (with_reducible refine Kd.C_drew ?_))); (case side4 => exact HC0_1.out); (case side5 => repeat (first | exact (Kd.C_below HR1.out HB.out) | (with_reducible refine Kd.C_alloc ?_ _) | (with_reducible refine Kd.C_drewN ?_ _) | (with_reducible refine Kd.C_drew ?_))); (case side6 => exact HC1.out); (case side7 => repeat (first | exact (Kd.C_below HR4.out HB.out) | (with_reducible refine Kd.C_alloc ?_ _) | (with_reducible refine Kd.C_drewN ?_ _) | (with_reducible refine Kd.C_drew ?_))); (case side8 => exact HC4.out); rintro e w125 ⟨rfl, hb⟩; replace HO934 := Aside0.mk (Kd.R_below (uR HO934.out) hb); replace BK925 := Aside0.mk (blk_below (uK BK925.out) hb); replace HB := Aside0.mk (below_step uB hb); (try clear hb); (try clear hb2); (try clear hk); (try clear hi))))
       go_ret
       exact ⟨uE, uB⟩
      ·replace c121 := Bool.eq_false_iff.mpr c121
       subst c121
       have H1 : ((quinarialaw02_known.f kj5).bind fun t937 => (some t937)) = some r := by rw [if_neg (show ¬ (false = true) by decide)] at H; exact H
       clear H
       have H := H1
       clear H1
       replace H := Option.bind_eq_some_iff.mp H
       obtain ⟨t937, A1260, H⟩ := H
       replace H : (some t937) = some r := H
       have A126 := Aside0.mk A1260
       clear A1260
       obtain rfl := Option.some.inj H
       obtain ⟨hcz127_0, hcz127_1⟩ := cz2 BK925.out
       obtain ⟨hfz127_0, hfz127_1⟩ := fz2 BK925.out
       go_wp2_with (first | (go_at_call 32; (with_reducible refine (channel_Plan.calls _ _ l0_0 _ _ l0_1 _ _ l1 a2 a3 t932 t935 _ ?side1 ?side2 ?side3 ?side4 ?side5 ?side6 A50.out).mono ?_); (case side1 => repeat (first | exact (Kd.C_below HR0_0.out HB.out) | (with_reducible refine Kd.C_alloc ?_ _) | (with_reducible refine Kd.C_drewN ?_ _) | (with_reducible refine Kd.C_drew ?_))); (case side2 => exact HC0_0.out); (case side3 => repeat (first | exact (Kd.C_below HR0_1.out HB.out) | (with_reducible refine Kd.C_alloc ?_ _) | (with_reducible refine Kd.C_drewN ?_ _) | (with_reducible refine Kd.C_drew ?_))); (case side4 => exact HC0_1.out); (case side5 => repeat (first | exact (Kd.C_below HR1.out HB.out) | (with_reducible refine Kd.C_alloc ?_ _) | (with_reducible refine Kd.C_drewN ?_ _) | (with_reducible refine Kd.C_drew ?_))); (case side6 => exact HC1.out); rintro e w128 ⟨v933, rfl, ho0, hb⟩; have HO934 := Aside0.mk (Kd.R_lower ho0 (below_size uB)); replace BK925 := Aside0.mk (blk_below (uK BK925.out) hb); replace HB := Aside0.mk (below_step uB hb); (try clear hb); (try clear hb2); (try clear hk); (try clear hi); (try clear ho0); obtain ⟨hcz129_0, hcz129_1⟩ := cz2 BK925.out; obtain ⟨hfz129_0, hfz129_1⟩ := fz2 BK925.out) | (go_at_call 35; (with_reducible refine (quinariaref02_Planned.calls kj5 _ _ l0_0 _ _ l0_1 _ _ l1 a2 a3 _ _ l4 false _ ?side1 ?side2 ?side3 ?side4 ?side5 ?side6 ?side7 ?side8 A51.out).mono ?_); (case side1 => repeat (first | exact (Kd.C_below HR0_0.out HB.out) | (with_reducible refine Kd.C_alloc ?_ _) | (with_reducible refine Kd.C_drewN ?_ _) | (with_reducible refine Kd.C_drew ?_))); (case side2 => exact HC0_0.out); (case side3 => repeat (first | exact (Kd.C_below HR0_1.out HB.out) | (with_reducible refine Kd.C_alloc ?_ _) | (with_reducible refine Kd.C_drewN ?_ _) | (with_reducible refine Kd.C_drew ?_))); (case side4 => exact HC0_1.out); (case side5 => repeat (first | exact (Kd.C_below HR1.out HB.out) | (with_reducible refine Kd.C_alloc ?_ _) | (with_reducible refine Kd.C_drewN ?_ _) | (with_reducible refine Kd.C_drew ?_))); (case side6 => exact HC1.out); (case side7 => repeat (first | exact (Kd.C_below HR4.out HB.out) | (with_reducible refine Kd.C_alloc ?_ _) | (with_reducible refine Kd.C_drewN ?_ _) | (with_reducible refine Kd.C_drew ?_))); (case side8 => exact HC4.out); rintro e w130 ⟨rfl, hb⟩; replace HO934 := Aside0.mk (Kd.R_below (uR HO934.out) hb); replace BK925 := Aside0.mk (blk_below (uK BK925.out) hb); replace HB := Aside0.mk (below_step uB hb); (try clear hb); (try clear hb2); (try clear hk); (try clear hi)) | (go_at_call 17; (with_reducible refine (quinarialaw02_known.calls kj5  t937 _ ?sideT A126.out).mono ?_); (case sideT => exact HT.out.below uB); rintro e w131 ⟨rfl, hb⟩; replace HO934 := Aside0.mk (Kd.R_below (uR HO934.out) hb); replace BK925 := Aside0.mk (blk_below (uK BK925.out) hb); replace HB := Aside0.mk (below_step uB hb); (try clear hb); (try clear hb2); (try clear hk); (try clear hi)))
       repeat (go_quiet (first | (go_at_call 32; (with_reducible refine (channel_Plan.calls _ _ l0_0 _ _ l0_1 _ _ l1 a2 a3 t932 t935 _ ?side1 ?side2 ?side3 ?side4 ?side5 ?side6 A50.out).mono ?_); (case side1 => repeat (first | exact (Kd.C_below HR0_0.out HB.out) | (with_reducible refine Kd.C_alloc ?_ _) | (with_reducible refine Kd.C_drewN ?_ _) | (with_reducible refine Kd.C_drew ?_))); (case side2 => exact HC0_0.out); (case side3 => repeat (first | exact (Kd.C_below HR0_1.out HB.out) | (with_reducible refine Kd.C_alloc ?_ _) | (with_reducible refine Kd.C_drewN ?_ _) | (with_reducible refine Kd.C_drew ?_))); (case side4 => exact HC0_1.out); (case side5 => repeat (first | exact (Kd.C_below HR1.out HB.out) | (with_reducible refine Kd.C_alloc ?_ _) | (with_reducible refine Kd.C_drewN ?_ _) | (with_reducible refine Kd.C_drew ?_))); (case side6 => exact HC1.out); rintro e w128 ⟨v933, rfl, ho0, hb⟩; have HO934 := Aside0.mk (Kd.R_lower ho0 (below_size uB)); replace BK925 := Aside0.mk (blk_below (uK BK925.out) hb); replace HB := Aside0.mk (below_step uB hb); (try clear hb); (try clear hb2); (try clear hk); (try clear hi); (try clear ho0); obtain ⟨hcz129_0, hcz129_1⟩ := cz2 BK925.out; obtain ⟨hfz129_0, hfz129_1⟩ := fz2 BK925.out) | (go_at_call 35; (with_reducible refine (quinariaref02_Planned.calls kj5 _ _ l0_0 _ _ l0_1 _ _ l1 a2 a3 _ _ l4 false _ ?side1 ?side2 ?side3 ?side4 ?side5 ?side6 ?side7 ?side8 A51.out).mono ?_); (case side1 => repeat (first | exact (Kd.C_below HR0_0.out HB.out) | (with_reducible refine Kd.C_alloc ?_ _) | (with_reducible refine Kd.C_drewN ?_ _) | (with_reducible refine Kd.C_drew ?_))); (case side2 => exact HC0_0.out); (case side3 => repeat (first | exact (Kd.C_below HR0_1.out HB.out) | (with_reducible refine Kd.C_alloc ?_ _) | (with_reducible refine Kd.C_drewN ?_ _) | (with_reducible refine Kd.C_drew ?_))); (case side4 => exact HC0_1.out); (case side5 => repeat (first | exact (Kd.C_below HR1.out HB.out) | (with_reducible refine Kd.C_alloc ?_ _) | (with_reducible refine Kd.C_drewN ?_ _) | (with_reducible refine Kd.C_drew ?_))); (case side6 => exact HC1.out); (case side7 => repeat (first | exact (Kd.C_below HR4.out HB.out) | (with_reducible refine Kd.C_alloc ?_ _) | (with_reducible refine Kd.C_drewN ?_ _) | (with_reducible refine Kd.C_drew ?_))); (case side8 => exact HC4.out); rintro e w130 ⟨rfl, hb⟩; replace HO934 := Aside0.mk (Kd.R_below (uR HO934.out) hb); replace BK925 := Aside0.mk (blk_below (uK BK925.out) hb); replace HB := Aside0.mk (below_step uB hb); (try clear hb); (try clear hb2); (try clear hk); (try clear hi)) | (go_at_call 17; (with_reducible refine (quinarialaw02_known.calls kj5  t937 _ ?sideT A126.out).mono ?_); (case sideT => exact HT.out.below uB); rintro e w131 ⟨rfl, hb⟩; replace HO934 := Aside0.mk (Kd.R_below (uR HO934.out) hb); replace BK925 := Aside0.mk (blk_below (uK BK925.out) hb); replace HB := Aside0.mk (below_step uB hb); (try clear hb); (try clear hb2); (try clear hk); (try clear hi))); try go_wp2_with (first | (go_at_call 32; (with_reducible refine (channel_Plan.calls _ _ l0_0 _ _ l0_1 _ _ l1 a2 a3 t932 t935 _ ?side1 ?side2 ?side3 ?side4 ?side5 ?side6 A50.out).mono ?_); (case side1 => repeat (first | exact (Kd.C_below HR0_0.out HB.out) | (with_reducible refine Kd.C_alloc ?_ _) | (with_reducible refine Kd.C_drewN ?_ _) | (with_reducible refine Kd.C_drew ?_))); (case side2 => exact HC0_0.out); (case side3 => repeat (first | exact (Kd.C_below HR0_1.out HB.out) | (with_reducible refine Kd.C_alloc ?_ _) | (with_reducible refine Kd.C_drewN ?_ _) | (with_reducible refine Kd.C_drew ?_))); (case side4 => exact HC0_1.out); (case side5 => repeat (first | exact (Kd.C_below HR1.out HB.out) | (with_reducible refine Kd.C_alloc ?_ _) | (with_reducible refine Kd.C_drewN ?_ _) | (with_reducible refine Kd.C_drew ?_))); (case side6 => exact HC1.out); rintro e w128 ⟨v933, rfl, ho0, hb⟩; have HO934 := Aside0.mk (Kd.R_lower ho0 (below_size uB)); replace BK925 := Aside0.mk (blk_below (uK BK925.out) hb); replace HB := Aside0.mk (below_step uB hb); (try clear hb); (try clear hb2); (try clear hk); (try clear hi); (try clear ho0); obtain ⟨hcz129_0, hcz129_1⟩ := cz2 BK925.out; obtain ⟨hfz129_0, hfz129_1⟩ := fz2 BK925.out) | (go_at_call 35; (with_reducible refine (quinariaref02_Planned.calls kj5 _ _ l0_0 _ _ l0_1 _ _ l1 a2 a3 _ _ l4 false _ ?side1 ?side2 ?side3 ?side4 ?side5 ?side6 ?side7 ?side8 A51.out).mono ?_); (case side1 => repeat (first | exact (Kd.C_below HR0_0.out HB.out) | (with_reducible refine Kd.C_alloc ?_ _) | (with_reducible refine Kd.C_drewN ?_ _) | (with_reducible refine Kd.C_drew ?_))); (case side2 => exact HC0_0.out); (case side3 => repeat (first | exact (Kd.C_below HR0_1.out HB.out) | (with_reducible refine Kd.C_alloc ?_ _) | (with_reducible refine Kd.C_drewN ?_ _) | (with_reducible refine Kd.C_drew ?_))); (case side4 => exact HC0_1.out); (case side5 => repeat (first | exact (Kd.C_below HR1.out HB.out) | (with_reducible refine Kd.C_alloc ?_ _) | (with_reducible refine Kd.C_drewN ?_ _) | (with_reducible refine Kd.C_drew ?_))); (case side6 => exact HC1.out); (case side7 => repeat (first | exact (Kd.C_below HR4.out HB.out) | (with_reducible refine Kd.C_alloc ?_ _) | (with_reducible refine Kd.C_drewN ?_ _) | (with_reducible refine Kd.C_drew ?_))); (case side8 => exact HC4.out); rintro e w130 ⟨rfl, hb⟩; replace HO934 := Aside0.mk (Kd.R_below (uR HO934.out) hb); replace BK925 := Aside0.mk (blk_below (uK BK925.out) hb); replace HB := Aside0.mk (below_step uB hb); (try clear hb); (try clear hb2); (try clear hk); (try clear hi)) | (go_at_call 17; (with_reducible refine (quinarialaw02_known.calls kj5  t937 _ ?sideT A126.out).mono ?_); (case sideT => exact HT.out.below uB); rintro e w131 ⟨rfl, hb⟩; replace HO934 := Aside0.mk (Kd.R_below (uR HO934.out) hb); replace BK925 := Aside0.mk (blk_below (uK BK925.out) hb); replace HB := Aside0.mk (below_step uB hb); (try clear hb); (try clear hb2); (try clear hk); (try clear hi))))
       go_ret
       exact ⟨uE, uB⟩
     ·rw [if_neg c120] at H
      have c120b0 : (t935 == 5) = false := beq_eq_false_iff_ne.mpr c120
      have c120b1 : (t935 != 5) = true := bne_iff_ne.mpr c120
      obtain rfl := Option.some.inj H
      obtain ⟨hcz132_0, hcz132_1⟩ := cz2 BK925.out
      obtain ⟨hfz132_0, hfz132_1⟩ := fz2 BK925.out
      go_wp2_with (first | (go_at_call 32; (with_reducible refine (channel_Plan.calls _ _ l0_0 _ _ l0_1 _ _ l1 a2 a3 t932 t935 _ ?side1 ?side2 ?side3 ?side4 ?side5 ?side6 A50.out).mono ?_); (case side1 => repeat (first | exact (Kd.C_below HR0_0.out HB.out) | (with_reducible refine Kd.C_alloc ?_ _) | (with_reducible refine Kd.C_drewN ?_ _) | (with_reducible refine Kd.C_drew ?_))); (case side2 => exact HC0_0.out); (case side3 => repeat (first | exact (Kd.C_below HR0_1.out HB.out) | (with_reducible refine Kd.C_alloc ?_ _) | (with_reducible refine Kd.C_drewN ?_ _) | (with_reducible refine Kd.C_drew ?_))); (case side4 => exact HC0_1.out); (case side5 => repeat (first | exact (Kd.C_below HR1.out HB.out) | (with_reducible refine Kd.C_alloc ?_ _) | (with_reducible refine Kd.C_drewN ?_ _) | (with_reducible refine Kd.C_drew ?_))); (case side6 => exact HC1.out); rintro e w133 ⟨v933, rfl, ho0, hb⟩; have HO934 := Aside0.mk (Kd.R_lower ho0 (below_size uB)); replace BK925 := Aside0.mk (blk_below (uK BK925.out) hb); replace HB := Aside0.mk (below_step uB hb); (try clear hb); (try clear hb2); (try clear hk); (try clear hi); (try clear ho0); obtain ⟨hcz134_0, hcz134_1⟩ := cz2 BK925.out; obtain ⟨hfz134_0, hfz134_1⟩ := fz2 BK925.out) | (go_at_call 35; (with_reducible refine (quinariaref02_Planned.calls kj5 _ _ l0_0 _ _ l0_1 _ _ l1 a2 a3 _ _ l4 t936 _ ?side1 ?side2 ?side3 ?side4 ?side5 ?side6 ?side7 ?side8 A51.out).mono ?_); (case side1 => repeat (first | exact (Kd.C_below HR0_0.out HB.out) | (with_reducible refine Kd.C_alloc ?_ _) | (with_reducible refine Kd.C_drewN ?_ _) | (with_reducible refine Kd.C_drew ?_))); (case side2 => exact HC0_0.out); (case side3 => repeat (first | exact (Kd.C_below HR0_1.out HB.out) | (with_reducible refine Kd.C_alloc ?_ _) | (with_reducible refine Kd.C_drewN ?_ _) | (with_reducible refine Kd.C_drew ?_))); (case side4 => exact HC0_1.out); (case side5 => repeat (first | exact (Kd.C_below HR1.out HB.out) | (with_reducible refine Kd.C_alloc ?_ _) | (with_reducible refine Kd.C_drewN ?_ _) | (with_reducible refine Kd.C_drew ?_))); (case side6 => exact HC1.out); (case side7 => repeat (first | exact (Kd.C_below HR4.out HB.out) | (with_reducible refine Kd.C_alloc ?_ _) | (with_reducible refine Kd.C_drewN ?_ _) | (with_reducible refine Kd.C_drew ?_))); (case side8 => exact HC4.out); rintro e w135 ⟨rfl, hb⟩; replace HO934 := Aside0.mk (Kd.R_below (uR HO934.out) hb); replace BK925 := Aside0.mk (blk_below (uK BK925.out) hb); replace HB := Aside0.mk (below_step uB hb); (try clear hb); (try clear hb2); (try clear hk); (try clear hi)))
      repeat (go_quiet (first | (go_at_call 32; (with_reducible refine (channel_Plan.calls _ _ l0_0 _ _ l0_1 _ _ l1 a2 a3 t932 t935 _ ?side1 ?side2 ?side3 ?side4 ?side5 ?side6 A50.out).mono ?_); (case side1 => repeat (first | exact (Kd.C_below HR0_0.out HB.out) | (with_reducible refine Kd.C_alloc ?_ _) | (with_reducible refine Kd.C_drewN ?_ _) | (with_reducible refine Kd.C_drew ?_))); (case side2 => exact HC0_0.out); (case side3 => repeat (first | exact (Kd.C_below HR0_1.out HB.out) | (with_reducible refine Kd.C_alloc ?_ _) | (with_reducible refine Kd.C_drewN ?_ _) | (with_reducible refine Kd.C_drew ?_))); (case side4 => exact HC0_1.out); (case side5 => repeat (first | exact (Kd.C_below HR1.out HB.out) | (with_reducible refine Kd.C_alloc ?_ _) | (with_reducible refine Kd.C_drewN ?_ _) | (with_reducible refine Kd.C_drew ?_))); (case side6 => exact HC1.out); rintro e w133 ⟨v933, rfl, ho0, hb⟩; have HO934 := Aside0.mk (Kd.R_lower ho0 (below_size uB)); replace BK925 := Aside0.mk (blk_below (uK BK925.out) hb); replace HB := Aside0.mk (below_step uB hb); (try clear hb); (try clear hb2); (try clear hk); (try clear hi); (try clear ho0); obtain ⟨hcz134_0, hcz134_1⟩ := cz2 BK925.out; obtain ⟨hfz134_0, hfz134_1⟩ := fz2 BK925.out) | (go_at_call 35; (with_reducible refine (quinariaref02_Planned.calls kj5 _ _ l0_0 _ _ l0_1 _ _ l1 a2 a3 _ _ l4 t936 _ ?side1 ?side2 ?side3 ?side4 ?side5 ?side6 ?side7 ?side8 A51.out).mono ?_); (case side1 => repeat (first | exact (Kd.C_below HR0_0.out HB.out) | (with_reducible refine Kd.C_alloc ?_ _) | (with_reducible refine Kd.C_drewN ?_ _) | (with_reducible refine Kd.C_drew ?_))); (case side2 => exact HC0_0.out); (case side3 => repeat (first | exact (Kd.C_below HR0_1.out HB.out) | (with_reducible refine Kd.C_alloc ?_ _) | (with_reducible refine Kd.C_drewN ?_ _) | (with_reducible refine Kd.C_drew ?_))); (case side4 => exact HC0_1.out); (case side5 => repeat (first | exact (Kd.C_below HR1.out HB.out) | (with_reducible refine Kd.C_alloc ?_ _) | (with_reducible refine Kd.C_drewN ?_ _) | (with_reducible refine Kd.C_drew ?_))); (case side6 => exact HC1.out); (case side7 => repeat (first | exact (Kd.C_below HR4.out HB.out) | (with_reducible refine Kd.C_alloc ?_ _) | (with_reducible refine Kd.C_drewN ?_ _) | (with_reducible refine Kd.C_drew ?_))); (case side8 => exact HC4.out); rintro e w135 ⟨rfl, hb⟩; replace HO934 := Aside0.mk (Kd.R_below (uR HO934.out) hb); replace BK925 := Aside0.mk (blk_below (uK BK925.out) hb); replace HB := Aside0.mk (below_step uB hb); (try clear hb); (try clear hb2); (try clear hk); (try clear hi))); try go_wp2_with (first | (go_at_call 32; (with_reducible refine (channel_Plan.calls _ _ l0_0 _ _ l0_1 _ _ l1 a2 a3 t932 t935 _ ?side1 ?side2 ?side3 ?side4 ?side5 ?side6 A50.out).mono ?_); (case side1 => repeat (first | exact (Kd.C_below HR0_0.out HB.out) | (with_reducible refine Kd.C_alloc ?_ _) | (with_reducible refine Kd.C_drewN ?_ _) | (with_reducible refine Kd.C_drew ?_))); (case side2 => exact HC0_0.out); (case side3 => repeat (first | exact (Kd.C_below HR0_1.out HB.out) | (with_reducible refine Kd.C_alloc ?_ _) | (with_reducible refine Kd.C_drewN ?_ _) | (with_reducible refine Kd.C_drew ?_))); (case side4 => exact HC0_1.out); (case side5 => repeat (first | exact (Kd.C_below HR1.out HB.out) | (with_reducible refine Kd.C_alloc ?_ _) | (with_reducible refine Kd.C_drewN ?_ _) | (with_reducible refine Kd.C_drew ?_))); (case side6 => exact HC1.out); rintro e w133 ⟨v933, rfl, ho0, hb⟩; have HO934 := Aside0.mk (Kd.R_lower ho0 (below_size uB)); replace BK925 := Aside0.mk (blk_below (uK BK925.out) hb); replace HB := Aside0.mk (below_step uB hb); (try clear hb); (try clear hb2); (try clear hk); (try clear hi); (try clear ho0); obtain ⟨hcz134_0, hcz134_1⟩ := cz2 BK925.out; obtain ⟨hfz134_0, hfz134_1⟩ := fz2 BK925.out) | (go_at_call 35; (with_reducible refine (quinariaref02_Planned.calls kj5 _ _ l0_0 _ _ l0_1 _ _ l1 a2 a3 _ _ l4 t936 _ ?side1 ?side2 ?side3 ?side4 ?side5 ?side6 ?side7 ?side8 A51.out).mono ?_); (case side1 => repeat (first | exact (Kd.C_below HR0_0.out HB.out) | (with_reducible refine Kd.C_alloc ?_ _) | (with_reducible refine Kd.C_drewN ?_ _) | (with_reducible refine Kd.C_drew ?_))); (case side2 => exact HC0_0.out); (case side3 => repeat (first | exact (Kd.C_below HR0_1.out HB.out) | (with_reducible refine Kd.C_alloc ?_ _) | (with_reducible refine Kd.C_drewN ?_ _) | (with_reducible refine Kd.C_drew ?_))); (case side4 => exact HC0_1.out); (case side5 => repeat (first | exact (Kd.C_below HR1.out HB.out) | (with_reducible refine Kd.C_alloc ?_ _) | (with_reducible refine Kd.C_drewN ?_ _) | (with_reducible refine Kd.C_drew ?_))); (case side6 => exact HC1.out); (case side7 => repeat (first | exact (Kd.C_below HR4.out HB.out) | (with_reducible refine Kd.C_alloc ?_ _) | (with_reducible refine Kd.C_drewN ?_ _) | (with_reducible refine Kd.C_drew ?_))); (case side8 => exact HC4.out); rintro e w135 ⟨rfl, hb⟩; replace HO934 := Aside0.mk (Kd.R_below (uR HO934.out) hb); replace BK925 := Aside0.mk (blk_below (uK BK925.out) hb); replace HB := Aside0.mk (below_step uB hb); (try clear hb); (try clear hb2); (try clear hk); (try clear hi))))
      go_ret
      exact ⟨uE, uB⟩
end Go.Proofs.YtdmdahafiiggiaaGreatDoor.K
end
section
namespace Go.Proofs.YtdmdahafiiggiaaGreatDoor.K
open Go.RowKit Go.Proofs.YtdmdahafiiggiaaGreatDoorW.PrintWords Go.Proofs.YtdmdahafiiggiaaGreatDoorW.PrintLast Go.Proofs.YtdmdahafiiggiaaGreatDoorW.PrintMore
attribute [local go_sem] max2_int min2_int max_two min_two max_three min_three max_four min_four
mutual
def quinariaref02_years.l0 : Nat → List Int → List Int → Int → Option (List Int × Bool)
 | 0, _, _, _ => none
 | k + 1, x4, x5, x6 => if x6 ≥ 0 then (quinariaref02_years.l1 k x4 x5 x6 (-1) 0) else (some (x4, ((x5.length : Int) == 0)))
def quinariaref02_years.l1 : Nat → List Int → List Int → Int → Int → Int → Option (List Int × Bool)
 | 0, _, _, _, _, _ => none
 | k + 1, x4, x5, x6, x7, x8 => if x8 < (x5.length : Int) then (if 0 ≤ x8 then (if (rd x5 x8) ≥ x6 then (if x7 < 0 then (quinariaref02_years.l1 k x4 x5 x6 x8 (wrap64 (x8 + 1))) else (if 0 ≤ x7 then (if x7 < (x5.length : Int) then (if (rd x5 x8) > (rd x5 x7) then (quinariaref02_years.l1 k x4 x5 x6 x8 (wrap64 (x8 + 1))) else (quinariaref02_years.l1 k x4 x5 x6 x7 (wrap64 (x8 + 1)))) else (none)) else (none))) else (quinariaref02_years.l1 k x4 x5 x6 x7 (wrap64 (x8 + 1)))) else (none)) else (if x7 ≥ 0 then (if x4.length < 17592186044416 then (if 0 ≤ x7 then (if x7 ≤ (x5.length : Int) then ((some (x5.take (x7 : Int).toNat : List Int)).bind fun y828 => (if ([] : List Int).length + y828.length < 17592186044416 then ((some (([] : List Int) ++ y828 : List Int)).bind fun y832 => (if 0 ≤ (wrap64 (x7 + 1)) then (if (wrap64 (x7 + 1)) ≤ (x5.length : Int) then ((some (x5.drop ((wrap64 (x7 + 1)) : Int).toNat : List Int)).bind fun y835 => (if y832.length + y835.length < 17592186044416 then (quinariaref02_years.l0 k (x4 ++ [x6]) (y832 ++ y835) (wrap64 (x6 - 1))) else (none))) else (none)) else (none))) else (none))) else (none)) else (none)) else (none)) else (quinariaref02_years.l0 k x4 x5 (wrap64 (x6 - 1))))
end
def quinariaref02_years.f (k : Nat) (l0 : List Int) : Option (List Int × Bool) := if ([] : List Int).length + l0.length < 17592186044416 then (quinariaref02_years.l0 k ([] : List Int) (([] : List Int) ++ l0) 40) else (none)
end Go.Proofs.YtdmdahafiiggiaaGreatDoor.K
end
section
namespace Go.Proofs.YtdmdahafiiggiaaGreatDoor.K
open Go.RowKit Go.Proofs.YtdmdahafiiggiaaGreatDoorW.PrintWords Go.Proofs.YtdmdahafiiggiaaGreatDoorW.PrintLast Go.Proofs.YtdmdahafiiggiaaGreatDoorW.PrintMore
attribute [local go_sem] max2_int min2_int max_two min_two max_three min_three max_four min_four
mutual
def quinariaref02_fills.l0 : Nat → List Int → List Int → Int → Option (Bool)
 | 0, _, _, _ => none
 | k + 1, x0, x1, x5 => if x5 ≤ 40 then (quinariaref02_fills.l1 k x0 x1 x5 0 0 0) else (some true)
def quinariaref02_fills.l1 : Nat → List Int → List Int → Int → Int → Int → Int → Option (Bool)
 | 0, _, _, _, _, _, _ => none
 | k + 1, x0, x1, x5, x6, x7, x8 => if x8 < (x0.length : Int) then (if 0 ≤ x8 then (if (rd x0 x8) ≤ x5 then (if x8 < (x1.length : Int) then (if (rd x1 x8) ≤ x5 then (quinariaref02_fills.l1 k x0 x1 x5 (wrap64 (x6 + 1)) (wrap64 (x7 + 1)) (wrap64 (x8 + 1))) else (quinariaref02_fills.l1 k x0 x1 x5 (wrap64 (x6 + 1)) x7 (wrap64 (x8 + 1)))) else (none)) else (if x8 < (x1.length : Int) then (if (rd x1 x8) ≤ x5 then (quinariaref02_fills.l1 k x0 x1 x5 x6 (wrap64 (x7 + 1)) (wrap64 (x8 + 1))) else (quinariaref02_fills.l1 k x0 x1 x5 x6 x7 (wrap64 (x8 + 1)))) else (none))) else (none)) else (if x6 > x7 then (some false) else (quinariaref02_fills.l0 k x0 x1 (wrap64 (x5 + 1))))
end
def quinariaref02_fills.f (k : Nat) (l0 : List Int) (l1 : List Int) : Option (Bool) := if (l0.length : Int) = (l1.length : Int) then (quinariaref02_fills.l0 k l0 l1 0) else (some false)
end Go.Proofs.YtdmdahafiiggiaaGreatDoor.K
end
section
namespace Go.Proofs.YtdmdahafiiggiaaGreatDoor.K
open Go.RowKit Go.Proofs.YtdmdahafiiggiaaGreatDoorW.PrintWords Go.Proofs.YtdmdahafiiggiaaGreatDoorW.PrintLast Go.Proofs.YtdmdahafiiggiaaGreatDoorW.PrintMore
attribute [local go_sem] max2_int min2_int max_two min_two max_three min_three max_four min_four
def quinariaref02_without.f (l0 : List Int) (a1 : Int) : Option (List Int) := if 0 ≤ a1 then (if a1 ≤ (l0.length : Int) then (if ([] : List Int).length + (l0.take (a1 : Int).toNat).length < 17592186044416 then ((some (([] : List Int) ++ (l0.take (a1 : Int).toNat) : List Int)).bind fun y846 => (if 0 ≤ (wrap64 (a1 + 1)) then (if (wrap64 (a1 + 1)) ≤ (l0.length : Int) then (if y846.length + (l0.drop ((wrap64 (a1 + 1)) : Int).toNat).length < 17592186044416 then (some (y846 ++ (l0.drop ((wrap64 (a1 + 1)) : Int).toNat))) else (none)) else (none)) else (none))) else (none)) else (none)) else (none)
end Go.Proofs.YtdmdahafiiggiaaGreatDoor.K
end
section
namespace Go.Proofs.YtdmdahafiiggiaaGreatDoor.K
open Go.RowKit Go.Proofs.YtdmdahafiiggiaaGreatDoorW.PrintWords Go.Proofs.YtdmdahafiiggiaaGreatDoorW.PrintLast Go.Proofs.YtdmdahafiiggiaaGreatDoorW.PrintMore
attribute [local go_sem] max2_int min2_int max_two min_two max_three min_three max_four min_four
mutual
def quinariaref02_Plan.l0 : Nat → List Int → Int → Int → List Int → Int → List Int → List (S32) → Option (List Int × Bool)
 | 0, _, _, _, _, _, _, _ => none
 | k + 1, x1, x2, x3, x10, x11, x854000, x854001 => if x11 < (x854001.length : Int) then ((quinariaref02_Latest.f k x854000 x854001 x11 x2).bind fun t854 => (if t854 < 0 then (some (([] : List Int), false)) else (if 0 ≤ x11 then (if x11 < (x1.length : Int) then ((quinariaref02_Last.f k x854000 x854001 x11 (rd x1 x11) x2 x3).bind fun t856 => (if t856 = 1000 then (quinariaref02_Plan.l0 k x1 x2 x3 x10 (wrap64 (x11 + 1)) x854000 x854001) else (if x10.length < 17592186044416 then (quinariaref02_Plan.l0 k x1 x2 x3 (x10 ++ [t856]) (wrap64 (x11 + 1)) x854000 x854001) else (none)))) else (none)) else (none)))) else ((quinariaref02_years.f k x10).bind fun bt860 => (if bt860.2 = true then (quinariaref02_Plan.l1 k x1 x2 x3 x10 bt860.1 ([] : List Int) 0 x854000 x854001) else (some (([] : List Int), false))))
def quinariaref02_Plan.l1 : Nat → List Int → Int → Int → List Int → List Int → List Int → Int → List Int → List (S32) → Option (List Int × Bool)
 | 0, _, _, _, _, _, _, _, _, _ => none
 | k + 1, x1, x2, x3, x10, x13, x15, x16, x854000, x854001 => if x16 < (x854001.length : Int) then (if 0 ≤ x16 then (if x16 < (x1.length : Int) then ((quinariaref02_Last.f k x854000 x854001 x16 (rd x1 x16) x2 x3).bind fun t865 => (if t865 = 1000 then (if x15.length < 17592186044416 then (quinariaref02_Plan.l1 k x1 x2 x3 x10 x13 (x15 ++ [(-1)]) (wrap64 (x16 + 1)) x854000 x854001) else (none)) else (if 0 < (x10.length : Int) then (if 1 ≤ (x10.length : Int) then (quinariaref02_Plan.l2 k x1 x2 x3 (x10.drop (1 : Int).toNat) x13 x15 x16 (rd x10 0) (-1) 0 x854000 x854001) else (none)) else (none)))) else (none)) else (none)) else (some (x15, true))
def quinariaref02_Plan.l2 : Nat → List Int → Int → Int → List Int → List Int → List Int → Int → Int → Int → Int → List Int → List (S32) → Option (List Int × Bool)
 | 0, _, _, _, _, _, _, _, _, _, _, _, _ => none
 | k + 1, x1, x2, x3, x10, x13, x15, x16, x17, x18, x19, x854000, x854001 => if x19 < (x13.length : Int) then (if 0 ≤ x19 then (if (rd x13 x19) ≤ x17 then (if x18 < 0 then ((quinariaref02_without.f x13 x19).bind fun t881 => ((quinariaref02_fills.f k x10 t881).bind fun t884 => (if t884 = true then (quinariaref02_Plan.l2 k x1 x2 x3 x10 x13 x15 x16 x17 x19 (wrap64 (x19 + 1)) x854000 x854001) else (quinariaref02_Plan.l2 k x1 x2 x3 x10 x13 x15 x16 x17 x18 (wrap64 (x19 + 1)) x854000 x854001)))) else (if 0 ≤ x18 then (if x18 < (x13.length : Int) then (if (rd x13 x19) < (rd x13 x18) then ((quinariaref02_without.f x13 x19).bind fun t887 => ((quinariaref02_fills.f k x10 t887).bind fun t890 => (if t890 = true then (quinariaref02_Plan.l2 k x1 x2 x3 x10 x13 x15 x16 x17 x19 (wrap64 (x19 + 1)) x854000 x854001) else (quinariaref02_Plan.l2 k x1 x2 x3 x10 x13 x15 x16 x17 x18 (wrap64 (x19 + 1)) x854000 x854001)))) else (quinariaref02_Plan.l2 k x1 x2 x3 x10 x13 x15 x16 x17 x18 (wrap64 (x19 + 1)) x854000 x854001)) else (none)) else (none))) else (quinariaref02_Plan.l2 k x1 x2 x3 x10 x13 x15 x16 x17 x18 (wrap64 (x19 + 1)) x854000 x854001)) else (none)) else (if 0 ≤ x18 then (if x18 < (x13.length : Int) then (if x15.length < 17592186044416 then ((quinariaref02_without.f x13 x18).bind fun t877 => (quinariaref02_Plan.l1 k x1 x2 x3 x10 t877 (x15 ++ [rd x13 x18]) (wrap64 (x16 + 1)) x854000 x854001)) else (none)) else (none)) else (none))
end
def quinariaref02_Plan.f (k : Nat) (l0_0 : List Int) (l0_1 : List (S32)) (l1 : List Int) (a2 : Int) (a3 : Int) : Option (List Int × Bool) := quinariaref02_Plan.l0 k l1 a2 a3 ([] : List Int) 0 l0_0 l0_1
end Go.Proofs.YtdmdahafiiggiaaGreatDoor.K
end
section
namespace Go.Proofs.YtdmdahafiiggiaaGreatDoor.K
open Go.RowKit Go.Proofs.YtdmdahafiiggiaaGreatDoorW.PrintWords Go.Proofs.YtdmdahafiiggiaaGreatDoorW.PrintLast Go.Proofs.YtdmdahafiiggiaaGreatDoorW.PrintMore
attribute [local go_sem] max2_int min2_int max_two min_two max_three min_three max_four min_four
mutual
def quinarialaw02_ChannelPlans.j0 : Nat → List Int → Int → Int → Bool → List Int → List (S32) → Option (Bool)
 | 0, _, _, _, _, _, _ => none
 | k + 1, x1, x2, x3, x20, x892000, x892001 => if x20 = true then ((quinarialaw02_known.f k).bind fun t893 => (some t893)) else ((channel_Plan.f x892000 x892001 x1 x2 x3).bind fun bt894 => ((quinariaref02_Right.f k x892000 x892001).bind fun t898 => (if t898 = true then ((quinariaref02_Ages.f k x892000 x892001 x1).bind fun t899 => (if t899 = true then ((quinariaref02_Need.f x2).bind fun t900 => (if t900 = true then ((quinariaref02_Until.f x3).bind fun t901 => (quinarialaw02_ChannelPlans.j1 k x1 x2 x3 bt894.1 bt894.2 (!t901) x892000 x892001)) else (quinarialaw02_ChannelPlans.j1 k x1 x2 x3 bt894.1 bt894.2 true x892000 x892001))) else (quinarialaw02_ChannelPlans.j1 k x1 x2 x3 bt894.1 bt894.2 true x892000 x892001))) else (quinarialaw02_ChannelPlans.j1 k x1 x2 x3 bt894.1 bt894.2 true x892000 x892001))))
def quinarialaw02_ChannelPlans.j1 : Nat → List Int → Int → Int → List Int → Int → Bool → List Int → List (S32) → Option (Bool)
 | 0, _, _, _, _, _, _, _, _ => none
 | k + 1, x1, x2, x3, x9, x10, x48, x892000, x892001 => if x48 = true then (if x10 = 2 then (if (x9.length : Int) = 0 then ((quinarialaw02_known.f k).bind fun t902 => (some t902)) else (some false)) else (some false)) else ((quinariaref02_Plan.f k x892000 x892001 x1 x2 x3).bind fun bt903 => (if bt903.2 = true then (if x10 = 0 then ((quinariaref02_Same.f k x9 bt903.1).bind fun t907 => (if t907 = true then ((quinarialaw02_known.f k).bind fun t908 => (some t908)) else (some false))) else (some false)) else (if x10 = 5 then (if (x9.length : Int) = 0 then ((quinarialaw02_known.f k).bind fun t909 => (some t909)) else (some false)) else (some false))))
end
def quinarialaw02_ChannelPlans.f (k : Nat) (l0_0 : List Int) (l0_1 : List (S32)) (l1 : List Int) (a2 : Int) (a3 : Int) : Option (Bool) := (quinarialaw02_short.f l0_0 l0_1).bind fun t892 => (if t892 = true then (quinarialaw02_ChannelPlans.j0 k l1 a2 a3 (decide ((l1.length : Int) > 10)) l0_0 l0_1) else (quinarialaw02_ChannelPlans.j0 k l1 a2 a3 true l0_0 l0_1))
end Go.Proofs.YtdmdahafiiggiaaGreatDoor.K
end
section
namespace Go.Proofs.YtdmdahafiiggiaaGreatDoor.K
open Go.RowKit Go.Proofs.YtdmdahafiiggiaaGreatDoorW.PrintWords Go.Proofs.YtdmdahafiiggiaaGreatDoorW.PrintLast Go.Proofs.YtdmdahafiiggiaaGreatDoorW.PrintMore
theorem cupsN_anti {sp : List Int} {st : List S32} (h : isLineB sp st = true) {n : Int} (hn : numB st n = true) {a a' r r' : Int} (a0 : 0 ≤ a) (ha : a ≤ a') (r0 : 0 ≤ r) (hr : r ≤ r') : cupsN sp st n a' r' ≤ cupsN sp st n a r := by
  have hn := num_range hn
  have hs := line_at h hn.1 hn.2
  unfold cupsN
  have h1 : r * a ≤ r' * a' := Int.mul_le_mul hr ha a0 (by omega)
  have h0 : 0 ≤ r * a := Int.mul_nonneg r0 a0
  have hl : r * a / 100 ≤ r' * a' / 100 := Int.ediv_le_ediv (by omega) h1
  have hl0 : 0 ≤ r * a / 100 := by omega
  generalize r * a / 100 = l at *
  generalize r' * a' / 100 = l' at *
  generalize rd_T32 st n = s at *
  unfold carry
  have := hs.s0
  have m1 : mx 0 (s.f0 - 2 * l') ≤ mx 0 (s.f0 - 2 * l) := by unfold mx; split <;> split <;> omega
  have m2 : mx 0 (s.f1 - l') ≤ mx 0 (s.f1 - l) := by unfold mx; split <;> split <;> omega
  exact Int.mul_le_mul_of_nonneg_right (Int.mul_le_mul m1 m2 (mx_ge 0 _).1 (mx_ge 0 _).1) (by omega)
end Go.Proofs.YtdmdahafiiggiaaGreatDoor.K
end
section
namespace Go.Proofs.YtdmdahafiiggiaaGreatDoor.K
open Go.RowKit Go.Proofs.YtdmdahafiiggiaaGreatDoorW.PrintWords Go.Proofs.YtdmdahafiiggiaaGreatDoorW.PrintLast Go.Proofs.YtdmdahafiiggiaaGreatDoorW.PrintMore
attribute [local go_sem] max2_int min2_int max_two min_two max_three min_three max_four min_four
def quinariaref02_Line.l0 : Nat → List Int → Int → List Int → List (S32) → Int → Int → Option (Int × Int)
 | 0, _, _, _, _, _, _ => none
 | k + 1, x1, x6, x631000, x631001, x633000, x633001 => if x6 < (x631001.length : Int) then (if 0 ≤ x6 then (if x6 < (x1.length : Int) then ((quinariaref02_Carries.f k x631000 x631001 x6 (rd x1 x6)).bind fun bt634 => (quinariaref02_Line.l0 k x1 (wrap64 (x6 + 1)) x631000 x631001 (mn x633000 bt634.1) (mn x633001 bt634.2))) else (none)) else (none)) else (some (x633000, x633001))
def quinariaref02_Line.f (k : Nat) (l0_0 : List Int) (l0_1 : List (S32)) (l1 : List Int) : Option (Int × Int) := quinariaref02_Line.l0 k l1 0 l0_0 l0_1 10000001 10000001
end Go.Proofs.YtdmdahafiiggiaaGreatDoor.K
end
section
namespace Go.Proofs.YtdmdahafiiggiaaGreatDoor.K
open Go.RowKit Go.Proofs.YtdmdahafiiggiaaGreatDoorW.PrintWords Go.Proofs.YtdmdahafiiggiaaGreatDoorW.PrintLast Go.Proofs.YtdmdahafiiggiaaGreatDoorW.PrintMore
attribute [local go_sem] max2_int min2_int max_two min_two max_three min_three max_four min_four
mutual
def quinariaref02_Narrowest.l0 : Nat → List Int → List Int → Int → List Int → List (S32) → Option (List Int)
 | 0, _, _, _, _, _ => none
 | k + 1, x1, x5, x6, x638000, x638001 => if x6 < (x638001.length : Int) then (if 0 ≤ x6 then (if x6 < (x1.length : Int) then ((quinariaref02_Carries.f k x638000 x638001 x6 (rd x1 x6)).bind fun bt639 => (quinariaref02_Narrowest.l1 k x1 x5 x6 bt639.1 true 0 x638000 x638001)) else (none)) else (none)) else (some x5)
def quinariaref02_Narrowest.l1 : Nat → List Int → List Int → Int → Int → Bool → Int → List Int → List (S32) → Option (List Int)
 | 0, _, _, _, _, _, _, _, _ => none
 | k + 1, x1, x5, x6, x7, x8, x9, x638000, x638001 => if x9 < (x638001.length : Int) then (if x8 = true then (if x9 = x6 then (quinariaref02_Narrowest.l1 k x1 x5 x6 x7 true (wrap64 (x9 + 1)) x638000 x638001) else (if 0 ≤ x9 then (if x9 < (x1.length : Int) then ((quinariaref02_Carries.f k x638000 x638001 x9 (rd x1 x9)).bind fun bt642 => (quinariaref02_Narrowest.l1 k x1 x5 x6 x7 (decide (x7 ≤ bt642.2)) (wrap64 (x9 + 1)) x638000 x638001)) else (none)) else (none))) else (quinariaref02_Narrowest.l1 k x1 x5 x6 x7 false (wrap64 (x9 + 1)) x638000 x638001)) else (if x8 = true then (if x5.length < 17592186044416 then (quinariaref02_Narrowest.l0 k x1 (x5 ++ [x6]) (wrap64 (x6 + 1)) x638000 x638001) else (none)) else (quinariaref02_Narrowest.l0 k x1 x5 (wrap64 (x6 + 1)) x638000 x638001))
end
def quinariaref02_Narrowest.f (k : Nat) (l0_0 : List Int) (l0_1 : List (S32)) (l1 : List Int) : Option (List Int) := quinariaref02_Narrowest.l0 k l1 ([] : List Int) 0 l0_0 l0_1
end Go.Proofs.YtdmdahafiiggiaaGreatDoor.K
end
section
namespace Go.Proofs.YtdmdahafiiggiaaGreatDoor.K
open Go.RowKit Go.Proofs.YtdmdahafiiggiaaGreatDoorW.PrintWords Go.Proofs.YtdmdahafiiggiaaGreatDoorW.PrintLast Go.Proofs.YtdmdahafiiggiaaGreatDoorW.PrintMore
abbrev ST := S32
variable {sp : List Int} {st : List ST}
theorem w1 {x : Int} (h0 : -1 ≤ x) (h : x < 9223372036854775807) : wrap64 (x + 1) = x + 1 := IntWalk.wrap64_in _ (by omega)
theorem drop_get {α : Type} {l : List α} {j : Nat} {a : α} {r : List α} (h : l.drop j = a :: r) : j < l.length ∧ l.drop (j + 1) = r ∧ ∀ d, l.getD j d = a := by
  have hj : j < l.length := by
    rcases Nat.lt_or_ge j l.length with h1 | h1
    · exact h1
    · rw [List.drop_eq_nil_of_le h1] at h; cases h
  rw [List.drop_eq_getElem_cons hj] at h
  injection h with h1 h2
  exact ⟨hj, h2, fun d => by simp [List.getD, List.getElem?_eq_getElem hj, h1]⟩
theorem rd_drop {l : List Int} {j : Nat} {a : Int} {r : List Int} (h : l.drop j = a :: r) : rd l (j : Int) = a := by simp only [rd, Int.toNat_natCast]; exact (drop_get h).2.2 0
theorem rd_at (l : List Int) (j : Nat) : rd l (j : Int) = l.getD j 0 := by simp [rd]
theorem getD_mem {α : Type} {l : List α} {j : Nat} (d : α) (h : j < l.length) : l.getD j d ∈ l := by
  rw [List.getD, List.getElem?_eq_getElem h]
  exact List.getElem_mem h
theorem short_f (sp : List Int) (st : List ST) : quinarialaw02_short.f sp st = some (shortB sp st) := by
  unfold quinarialaw02_short.f shortB
  by_cases h1 : sp.length ≤ 13
  · rw [if_pos (by omega)]
    by_cases h2 : st.length ≤ 10
    · simp [h1, h2]; omega
    · simp [h1, h2]; omega
  · rw [if_neg (by omega)]; simp [h1]
theorem cupsN_range (h : isLineB sp st = true) {n age rate : Int} (hn : numB st n = true) (a0 : 0 ≤ age) (r0 : 0 ≤ rate) : 0 ≤ cupsN sp st n age rate ∧ cupsN sp st n age rate ≤ 10000000 := by
  have hn := num_range hn
  have hs := line_at h hn.1 hn.2
  have hp : 0 ≤ rate * age := Int.mul_nonneg r0 a0
  unfold cupsN
  have hl : 0 ≤ rate * age / 100 := by omega
  generalize rate * age / 100 = l at *
  generalize rd_T32 st n = s at *
  obtain ⟨b0, b1, d0, d1, -, -, -, -, -, s0, s1⟩ := hs
  unfold carry
  have hp := prod_range (mx_ge 0 (s.f0 - 2 * l)).1 (mx_le (show (0 : Int) ≤ 100 by omega) (show s.f0 - 2 * l ≤ 100 by omega)) (mx_ge 0 (s.f1 - l)).1 (mx_le (show (0 : Int) ≤ 100 by omega) (show s.f1 - l ≤ 100 by omega)) (show 0 ≤ rd sp s.f2 by omega) s1
  omega
theorem rcar_from (h : isLineB sp st = true) {n age : Int} (hn : numB st n = true) (ha : inB age 0 200 = true) : ∀ (d : Nat) (r : Int) (K : Nat), (rd_T32 st n).f3.f0 < r → r + d = (rd_T32 st n).f3.f1 + 1 → d < K →
    quinariaref02_Carries.l0 K n age r sp st (cupsN sp st n age (r - 1)) (mostN sp st n age) = some (leastN sp st n age, mostN sp st n age)
  | 0, r, K + 1, h1, h2, hK => by
    have hn' := num_range hn
    unfold quinariaref02_Carries.l0
    rw [if_pos hn'.1, if_pos hn'.2, if_neg (by omega), show r - 1 = (rd_T32 st n).f3.f1 by omega]
    rfl
  | d + 1, r, K + 1, h1, h2, hK => by
    have hn' := num_range hn
    have hs := line_at h hn'.1 hn'.2
    obtain ⟨-, -, -, -, -, -, l0, lh, lh1, -, -⟩ := hs
    have ha' := age_range ha
    unfold quinariaref02_Carries.l0
    rw [if_pos hn'.1, if_pos hn'.2, if_pos (by omega), cupsR_f h hn ha (by omega) (by omega), Option.bind_some, w1 (by omega) (by omega)]
    have e1 : mn (cupsN sp st n age (r - 1)) (cupsN sp st n age r) = cupsN sp st n age (r + 1 - 1) := by
      rw [show r + 1 - 1 = r by omega]
      have := cupsN_anti h hn ha'.1 (Int.le_refl age) (show 0 ≤ r - 1 by omega) (show r - 1 ≤ r by omega)
      unfold mn; split <;> omega
    have e2 : mx (mostN sp st n age) (cupsN sp st n age r) = mostN sp st n age := by
      have := cupsN_anti h hn ha'.1 (Int.le_refl age) l0 (show (rd_T32 st n).f3.f0 ≤ r by omega)
      unfold mx mostN; split <;> omega
    rw [e1, e2]
    exact rcar_from h hn ha d (r + 1) K (by omega) (by omega) (by omega)
theorem rcar_f (h : isLineB sp st = true) {n age : Int} (hn : numB st n = true) (ha : inB age 0 200 = true) (K : Nat) (hK : 102 < K) : quinariaref02_Carries.f K sp st n age = some (leastN sp st n age, mostN sp st n age) := by
  have hn' := num_range hn
  have hs := line_at h hn'.1 hn'.2
  obtain ⟨-, -, -, -, -, -, l0, lh, lh1, -, -⟩ := hs
  have ha' := age_range ha
  unfold quinariaref02_Carries.f
  rw [if_pos hn'.1, if_pos hn'.2]
  obtain ⟨K, rfl⟩ : ∃ k, K = k + 1 := ⟨K - 1, by omega⟩
  unfold quinariaref02_Carries.l0
  rw [if_pos hn'.1, if_pos hn'.2, if_pos lh, cupsR_f h hn ha l0 (by omega), Option.bind_some, w1 (by omega) (by omega)]
  have hr := cupsN_range h hn ha'.1 l0 (rate := (rd_T32 st n).f3.f0)
  have e1 : mn 10000001 (cupsN sp st n age (rd_T32 st n).f3.f0) = cupsN sp st n age ((rd_T32 st n).f3.f0 + 1 - 1) := by
    rw [Int.add_sub_cancel]; unfold mn; split <;> omega
  have e2 : mx (-1) (cupsN sp st n age (rd_T32 st n).f3.f0) = mostN sp st n age := by
    unfold mx mostN; split <;> omega
  rw [e1, e2]
  exact rcar_from h hn ha ((rd_T32 st n).f3.f1 - (rd_T32 st n).f3.f0).toNat _ K (by omega) (by omega) (by omega)
theorem ages_from (ages : List Int) (hl : ages.length ≤ 1000000) (hs : st.length ≤ 1000000) : ∀ (d j K : Nat), j + d = ages.length → d < K → quinariaref02_Ages.l0 K ages (j : Int) sp st = some ((ages.drop j).all (fun x => inB x 0 200) && (ages.length == st.length))
  | 0, j, K + 1, hj, hK => by
    unfold quinariaref02_Ages.l0
    rw [if_neg (by omega), List.drop_eq_nil_of_le (by omega), List.all_nil, Bool.true_and]
    congr 1
    rw [beq_cast]
    by_cases e : ages.length = st.length <;> simp [e]
  | d + 1, j, K + 1, hj, hK => by
    unfold quinariaref02_Ages.l0 quinariaref02_Age.f
    rw [if_pos (by omega), if_pos (by omega), inR_f, Option.bind_some, Option.bind_some, w1 (by omega) (by omega), all_drop _ 0 _ _ (by omega)]
    have e : rd ages (j : Int) = ages.getD j 0 := by simp [rd]
    rw [e]
    have ih := ages_from ages hl hs d (j + 1) K (by omega) (by omega)
    cases h1 : inB (ages.getD j 0) 0 200 with
    | true => simpa using ih
    | false => simp
theorem ages_f (ages : List Int) (hl : ages.length ≤ 1000000) (hs : st.length ≤ 1000000) (K : Nat) (hK : ages.length < K) : quinariaref02_Ages.f K sp st ages = some (areAgesB st.length ages) := by
  unfold quinariaref02_Ages.f areAgesB
  have := ages_from (sp := sp) ages hl hs ages.length 0 K (by omega) hK
  rw [show ((0 : Nat) : Int) = 0 from rfl] at this
  rw [this, List.drop_zero, Bool.and_comm]
theorem numB_of {j : Nat} (h : j < st.length) : numB st (j : Int) = true := by simp [numB, inB]; omega
theorem ages_all {ages : List Int} (h : areAgesB st.length ages = true) : ages.length = st.length ∧ ∀ a ∈ ages, inB a 0 200 = true := by
  simp only [areAgesB, Bool.and_eq_true, beq_iff_eq] at h
  exact ⟨h.1, fun a ha => List.all_eq_true.mp h.2 a ha⟩
end Go.Proofs.YtdmdahafiiggiaaGreatDoor.K
end
section
namespace Go.Proofs.YtdmdahafiiggiaaGreatDoor.K
open Go.RowKit Go.Proofs.YtdmdahafiiggiaaGreatDoorW.PrintWords Go.Proofs.YtdmdahafiiggiaaGreatDoorW.PrintLast Go.Proofs.YtdmdahafiiggiaaGreatDoorW.PrintMore
variable {A0 A1 : Option Addr} {c0 c1 : Nat} {sp : List Int} {st : List S32} {w : World}
theorem lat_spec {need n : Int} (hm : ∀ a b : Int, 0 ≤ a → a ≤ b → leastN sp st n b ≤ leastN sp st n a) : ∀ (k : Nat) (a : Int), 0 ≤ a →
    (∀ b, a ≤ b → b ≤ latFrom sp st n need k a → need ≤ leastN sp st n b) ∧ (latFrom sp st n need k a < a - 1 + k → leastN sp st n (latFrom sp st n need k a + 1) < need)
  | 0, a, ha => ⟨fun b h1 h2 => by simp only [latFrom] at h2; omega, fun h => by simp only [latFrom] at h; omega⟩
  | k + 1, a, ha => by
    simp only [latFrom]
    by_cases hc : leastN sp st n a < need
    · rw [if_pos hc]
      exact ⟨fun b h1 h2 => by omega, fun _ => by rw [show a - 1 + 1 = a by omega]; exact hc⟩
    · rw [if_neg hc]
      have ih := lat_spec (need := need) hm k (a + 1) (by omega)
      refine ⟨fun b h1 h2 => ?_, fun h => ih.2 (by omega)⟩
      by_cases hb : b = a
      · subst hb; omega
      · exact ih.1 b (by omega) h2
theorem least_anti (h : isLineB sp st = true) {n : Int} (hn : numB st n = true) {a b : Int} (ha : 0 ≤ a) (hb : a ≤ b) : leastN sp st n b ≤ leastN sp st n a := by
  have hn' := num_range hn
  have hs := line_at h hn'.1 hn'.2
  exact cupsN_anti h hn ha hb (by have := hs.l0; have := hs.lh; omega) (Int.le_refl _)
theorem latN_iff (h : isLineB sp st = true) {n : Int} (hn : numB st n = true) (need : Int) {a : Int} (a0 : 0 ≤ a) (a1 : a ≤ 200) : need ≤ leastN sp st n a ↔ a ≤ latN sp st n need := by
  have hm : ∀ a b : Int, 0 ≤ a → a ≤ b → leastN sp st n b ≤ leastN sp st n a := fun a b h1 h2 => least_anti h hn h1 h2
  have hl := lat_spec (need := need) hm 201 0 (by omega)
  have hr := latN_range sp st n need
  change (∀ b, 0 ≤ b → b ≤ latN sp st n need → need ≤ leastN sp st n b) ∧ (latN sp st n need < 0 - 1 + ((201 : Nat) : Int) → leastN sp st n (latN sp st n need + 1) < need) at hl
  refine ⟨fun hc => ?_, fun hc => hl.1 a a0 hc⟩
  by_cases hx : a ≤ latN sp st n need
  · exact hx
  · have h1 := hl.2 (by omega)
    have h2 := hm (latN sp st n need + 1) a (by omega) (by omega)
    omega
end Go.Proofs.YtdmdahafiiggiaaGreatDoor.K
end
