/- ChannelLines: the walk of the law, and what it comes to. -/
import Derived.Test.YtdmdahafiiggiaaGreatDoorB5
set_option linter.unusedVariables false
set_option linter.unusedSimpArgs false
section
namespace Go.Proofs.YtdmdahafiiggiaaGreatDoor.K
open Go.RowKit Go.Proofs.YtdmdahafiiggiaaGreatDoorW.PrintWords Go.Proofs.YtdmdahafiiggiaaGreatDoorW.PrintLast Go.Proofs.YtdmdahafiiggiaaGreatDoorW.PrintMore
def quinarialaw02_known.f (_ : Nat) : Option Bool := some true
theorem quinarialaw02_known.calls (k : Nat) (r : Bool) (w : World) (hT : TabW w) (h : quinarialaw02_known.f k  = some r) :
    Calls Tryz.prog 17 #[] w fun e w' => e = .returned (.bool r) ∧ Below w.heap.size w w' := by
  obtain rfl : true = r := Option.some.inj h
  exact known_any w hT
end Go.Proofs.YtdmdahafiiggiaaGreatDoor.K
end
section
namespace Go.Proofs.YtdmdahafiiggiaaGreatDoor.K
open Go.RowKit Go.Proofs.YtdmdahafiiggiaaGreatDoorW.PrintWords Go.Proofs.YtdmdahafiiggiaaGreatDoorW.PrintLast Go.Proofs.YtdmdahafiiggiaaGreatDoorW.PrintMore
attribute [local go_sem] max2_int min2_int max_two min_two max_three min_three max_four min_four
set_option linter.unusedVariables false
set_option linter.unusedSimpArgs false
def quinariaref02_Ages.l0 : Nat → List Int → Int → List Int → List (S32) → Option (Bool)
 | 0, _, _, _, _ => none
 | k + 1, x1, x5, x622000, x622001 => if x5 < (x1.length : Int) then (if 0 ≤ x5 then ((quinariaref02_Age.f (rd x1 x5)).bind fun t623 => (if t623 = true then (quinariaref02_Ages.l0 k x1 (wrap64 (x5 + 1)) x622000 x622001) else (some false))) else (none)) else (some ((x1.length : Int) == (x622001.length : Int)))
def quinariaref02_Ages.f (k : Nat) (l0_0 : List Int) (l0_1 : List (S32)) (l1 : List Int) : Option (Bool) := quinariaref02_Ages.l0 k l1 0 l0_0 l0_1
set_option maxHeartbeats 8000000 in
set_option maxRecDepth 100000 in
theorem quinariaref02_Ages.calls (k : Nat) (A0_0 : Option Addr) (c0_0 : Nat) (l0_0 : List Int) (A0_1 : Option Addr) (c0_1 : Nat) (l0_1 : List (S32)) (A1 : Option Addr) (c1 : Nat) (l1 : List Int) (r : Bool) (w : World) (hr0_0 : Kd.C (Kd.int .i64) w A0_0 l0_0.length l0_0) (hc0_0 : l0_0.length ≤ c0_0) (hr0_1 : Kd.C k32 w A0_1 l0_1.length l0_1) (hc0_1 : l0_1.length ≤ c0_1) (hr1 : Kd.C (Kd.int .i64) w A1 l1.length l1) (hc1 : l1.length ≤ c1) (h : quinariaref02_Ages.f k l0_0 l0_1 l1 = some r) :
  Calls Tryz.prog 22 #[.agg #[.slice A0_0 l0_0.length c0_0, .slice A0_1 l0_1.length c0_1], .slice A1 l1.length c1] w fun e w' => e = .returned (.bool r) ∧ Below w.heap.size w w' := by
 have hu25 := Tryz.underlying25
 have HR0_0 := Aside0.mk hr0_0
 have HC0_0 := Aside0.mk hc0_0
 clear hr0_0 hc0_0
 have HR0_1 := Aside0.mk hr0_1
 have HC0_1 := Aside0.mk hc0_1
 clear hr0_1 hc0_1
 have HR1 := Aside0.mk hr1
 have HC1 := Aside0.mk hc1
 clear hr1 hc1
 have HB := Aside0.mk (Below.refl w.heap.size w)
 have H : (quinariaref02_Ages.l0 k l1 0 l0_0 l0_1) = some r := h
 clear h
 have H' := Aside0.mk H
 clear H
 go_enter Tryz.func22, Tryz.ntmps22
 go_wp2_with (first | ((with_reducible refine gate_dst (N := 2) rfl ?_); refine bxe 2 #[.slice A0_0 l0_0.length c0_0, .slice A0_1 l0_1.length c0_1] 25 ?_; intro gb621 hg w3 hbox hb; have n0_ := Aside0.mk (below_step uB hb); have n1_ := Aside0.mk (hbox); have n2_ := gw hg; have n3_ := gw hg; clear HB; have HB := n0_; have BK621 := n1_; have GW621 := n2_; have GE621 := n3_; clear n0_ n1_ n2_ n3_; clear hb hbox hg))
 go_loopg [5] k (fun kq v5 w' => ∃ (x5_1 : Int), v5 = .int .i64 x5_1 ∧ Aside0 (quinariaref02_Ages.l0 kq l1 x5_1 l0_0 l0_1 = some r) ∧ Aside0 (kq ≤ k) ∧ Aside0 (w'.heap[gb621]? = some (.cells #[(.slice A0_0 l0_0.length c0_0), (.slice A0_1 l0_1.length c0_1)] 25 (0, 0))) ∧ Aside0 (Below w.heap.size w w'))
 case atStart => exact ⟨(0), u0, H', ⟨Nat.le_refl _⟩, ⟨uK BK621.out⟩, ⟨uB⟩⟩
 case round =>
  clear H'
  try clear c1; try clear c2; try clear p2
  obtain ⟨x5_1, rfl, HA, HK1, BK621, HB⟩ := hrel
  cases gk with
  | zero => exact absurd HA.out (by simp [quinariaref02_Ages.l0])
  | succ k1 =>
   have H := HA.out
   clear HA
   simp only [quinariaref02_Ages.l0] at H
   by_cases c4 : x5_1 < (l1.length : Int)
   ·rw [if_pos c4] at H
    replace c4 := decide_eq_true c4
    obtain ⟨c5, H⟩ := ifs H
    replace c5 := decide_eq_true c5
    replace H := Option.bind_eq_some_iff.mp H
    obtain ⟨t623, A60, H⟩ := H
    replace H : (if t623 = true then (quinariaref02_Ages.l0 k1 l1 (wrap64 (x5_1 + 1)) l0_0 l0_1) else (some false)) = some r := H
    have A6 := Aside0.mk A60
    clear A60
    by_cases c7 : t623 = true
    ·subst c7
     have H1 : (quinariaref02_Ages.l0 k1 l1 (wrap64 (x5_1 + 1)) l0_0 l0_1) = some r := by rw [if_pos rfl] at H; exact H
     clear H
     have H := H1
     clear H1
     have H' := Aside0.mk H
     clear H
     have p622 : 0 ≤ (x5_1 : Int) := of_decide_eq_true (by first | (with_reducible assumption) | assumption)
     have q622 : x5_1 < (l1.length : Int) := of_decide_eq_true (by first | (with_reducible assumption) | assumption)
     obtain ⟨ad622, e622, hx622_0⟩ := Kd.at_int HR1.out x5_1 p622 q622
     cases e622
     replace hx622_0 := hcell HB.out hx622_0
     replace p622 := eq_true p622
     replace q622 := eq_true q622
     go_wp2_with (first | ((with_reducible refine gate_callee (f := 16) rfl ?_); refine goesL_ (some 16) rfl rfl Tryz.func16 (by kernel_rfl) rfl #[.int .i64 (rd l1 x5_1)] rfl uM ?_; (with_reducible refine (quinariaref02_Age.calls (rd l1 x5_1) true _ A6.out).mono ?_); rintro e w' ⟨rfl, ⟨nd, rfl⟩⟩; refine ⟨_, rfl, ?_⟩))
     go_roundg k1
     case measure => have := HK1.out; omega
     case rel => exact ⟨(wrap64 (x5_1 + 1)), u0, H', ⟨by have := HK1.out; omega⟩, ⟨uK BK621.out⟩, ⟨uB⟩⟩
    ·replace c7 := Bool.eq_false_iff.mpr c7
     subst c7
     have H1 : (some false) = some r := by rw [if_neg (show ¬ (false = true) by decide)] at H; exact H
     clear H
     have H := H1
     clear H1
     obtain rfl := Option.some.inj H
     have p622 : 0 ≤ (x5_1 : Int) := of_decide_eq_true (by first | (with_reducible assumption) | assumption)
     have q622 : x5_1 < (l1.length : Int) := of_decide_eq_true (by first | (with_reducible assumption) | assumption)
     obtain ⟨ad622, e622, hx622_0⟩ := Kd.at_int HR1.out x5_1 p622 q622
     cases e622
     replace hx622_0 := hcell HB.out hx622_0
     replace p622 := eq_true p622
     replace q622 := eq_true q622
     go_wp2_with (first | ((with_reducible refine gate_callee (f := 16) rfl ?_); refine goesL_ (some 16) rfl rfl Tryz.func16 (by kernel_rfl) rfl #[.int .i64 (rd l1 x5_1)] rfl uM ?_; (with_reducible refine (quinariaref02_Age.calls (rd l1 x5_1) false _ A6.out).mono ?_); rintro e w' ⟨rfl, ⟨nd, rfl⟩⟩; refine ⟨_, rfl, ?_⟩))
     go_ret
     exact ⟨uE, uB⟩
   ·rw [if_neg c4] at H
    replace c4 := decide_eq_false c4
    obtain rfl := Option.some.inj H
    obtain ⟨hcz8_0, hcz8_1⟩ := cz2 BK621.out
    obtain ⟨hfz8_0, hfz8_1⟩ := fz2 BK621.out
    go_wp2
    go_ret
    exact ⟨uE, uB⟩
end Go.Proofs.YtdmdahafiiggiaaGreatDoor.K
end
section
namespace Go.Proofs.YtdmdahafiiggiaaGreatDoor.K
open Go.RowKit Go.Proofs.YtdmdahafiiggiaaGreatDoorW.PrintWords Go.Proofs.YtdmdahafiiggiaaGreatDoorW.PrintLast Go.Proofs.YtdmdahafiiggiaaGreatDoorW.PrintMore
attribute [local go_sem] max2_int min2_int max_two min_two max_three min_three max_four min_four
set_option linter.unusedVariables false
set_option linter.unusedSimpArgs false
def quinariaref02_Carries.l0 : Nat → Int → Int → Int → List Int → List (S32) → Int → Int → Option (Int × Int)
 | 0, _, _, _, _, _, _, _ => none
 | k + 1, x1, x2, x8, x625000, x625001, x627000, x627001 => if 0 ≤ x1 then (if x1 < (x625001.length : Int) then (if x8 ≤ ((rd_T32 x625001 x1).f3.f1) then ((quinariaref02_Cups.f x625000 x625001 x1 x2 x8).bind fun t629 => (quinariaref02_Carries.l0 k x1 x2 (wrap64 (x8 + 1)) x625000 x625001 (mn x627000 t629) (mx x627001 t629))) else (some (x627000, x627001))) else (none)) else (none)
def quinariaref02_Carries.f (k : Nat) (l0_0 : List Int) (l0_1 : List (S32)) (a1 : Int) (a2 : Int) : Option (Int × Int) := if 0 ≤ a1 then (if a1 < (l0_1.length : Int) then (quinariaref02_Carries.l0 k a1 a2 ((rd_T32 l0_1 a1).f3.f0) l0_0 l0_1 10000001 (-1)) else (none)) else (none)
set_option maxHeartbeats 8000000 in
set_option maxRecDepth 100000 in
theorem quinariaref02_Carries.calls (k : Nat) (A0_0 : Option Addr) (c0_0 : Nat) (l0_0 : List Int) (A0_1 : Option Addr) (c0_1 : Nat) (l0_1 : List (S32)) (a1 : Int) (a2 : Int) (r1 : Int) (r2 : Int) (w : World) (hr0_0 : Kd.C (Kd.int .i64) w A0_0 l0_0.length l0_0) (hc0_0 : l0_0.length ≤ c0_0) (hr0_1 : Kd.C k32 w A0_1 l0_1.length l0_1) (hc0_1 : l0_1.length ≤ c0_1) (h : quinariaref02_Carries.f k l0_0 l0_1 a1 a2 = some (r1, r2)) :
  Calls Tryz.prog 62 #[.agg #[.slice A0_0 l0_0.length c0_0, .slice A0_1 l0_1.length c0_1], .int .i64 a1, .int .i64 a2] w fun e w' => e = .returned (.agg #[.int .i64 r1, .int .i64 r2]) ∧ Below w.heap.size w w' := by
 have hu25 := Tryz.underlying25
 have hu30 := Tryz.underlying30
 have HR0_0 := Aside0.mk hr0_0
 have HC0_0 := Aside0.mk hc0_0
 clear hr0_0 hc0_0
 have HR0_1 := Aside0.mk hr0_1
 have HC0_1 := Aside0.mk hc0_1
 clear hr0_1 hc0_1
 have HB := Aside0.mk (Below.refl w.heap.size w)
 have H : (if 0 ≤ a1 then (if a1 < (l0_1.length : Int) then (quinariaref02_Carries.l0 k a1 a2 ((rd_T32 l0_1 a1).f3.f0) l0_0 l0_1 10000001 (-1)) else (none)) else (none)) = some (r1, r2) := h
 clear h
 obtain ⟨c4, H⟩ := ifs H
 replace c4 := decide_eq_true c4
 obtain ⟨c5, H⟩ := ifs H
 replace c5 := decide_eq_true c5
 have H' := Aside0.mk H
 clear H
 go_enter Tryz.func62, Tryz.ntmps62
 go_wp2_with (first | ((with_reducible refine gate_dst (N := 3) rfl ?_); refine bxe 3 #[.slice A0_0 l0_0.length c0_0, .slice A0_1 l0_1.length c0_1] 25 ?_; intro gb624 hg w6 hbox hb; have n0_ := Aside0.mk (below_step uB hb); have n1_ := Aside0.mk (hbox); have n2_ := gw hg; have n3_ := gw hg; clear HB; have HB := n0_; have BK624 := n1_; have GW624 := n2_; have GE624 := n3_; clear n0_ n1_ n2_ n3_; clear hb hbox hg) | ((with_reducible refine gate_dst (N := 6) rfl ?_); refine bxe 6 #[.int .i64 0, .int .i64 0] 30 ?_; intro gb625 hg w7 hbox hb; have n0_ := Aside0.mk (blk_below (uK BK624.out) hb); have n1_ := Aside0.mk (below_step uB hb); have n2_ := Aside0.mk (hbox); have n3_ := gw hg; have n4_ := gw hg; have n5_ := nb BK624 hg; have n6_ := nc BK624 hg; clear BK624; clear HB; have BK624 := n0_; have HB := n1_; have BK625 := n2_; have GW625 := n3_; have GE625 := n4_; have NB624_625 := n5_; have NB625_624 := n6_; clear n0_ n1_ n2_ n3_ n4_ n5_ n6_; clear hb hbox hg) | ((with_reducible refine gate_dst (N := 7) rfl ?_); refine bxe 7 #[.int .i64 0, .int .i64 0] 30 ?_; intro gb626 hg w8 hbox hb; have n0_ := Aside0.mk (blk_below (uK BK624.out) hb); have n1_ := Aside0.mk (blk_below (uK BK625.out) hb); have n2_ := Aside0.mk (below_step uB hb); have n3_ := Aside0.mk (hbox); have n4_ := gw hg; have n5_ := gw hg; have n6_ := nb BK624 hg; have n7_ := nc BK624 hg; have n8_ := nb BK625 hg; have n9_ := nc BK625 hg; clear BK624; clear BK625; clear HB; have BK624 := n0_; have BK625 := n1_; have HB := n2_; have BK626 := n3_; have GW626 := n4_; have GE626 := n5_; have NB624_626 := n6_; have NB626_624 := n7_; have NB625_626 := n8_; have NB626_625 := n9_; clear n0_ n1_ n2_ n3_ n4_ n5_ n6_ n7_ n8_ n9_; clear hb hbox hg; have hnb9 := NB626_624.out; have hnc9 := NB624_626.out; have hnb10 := NB626_625.out; have hnc10 := NB625_626.out; obtain ⟨hcz11_0, hcz11_1⟩ := cz2 BK626.out; obtain ⟨hfz11_0, hfz11_1⟩ := fz2 BK626.out; have hnb12 := NB624_625.out; have hnc12 := NB625_624.out; obtain ⟨hcz13_0, hcz13_1⟩ := cz2 BK624.out; obtain ⟨hfz13_0, hfz13_1⟩ := fz2 BK624.out; have p627 : 0 ≤ (a1 : Int) := of_decide_eq_true (by first | (with_reducible assumption) | assumption); have q627 : a1 < (l0_1.length : Int) := of_decide_eq_true (by first | (with_reducible assumption) | assumption); obtain ⟨ad627, e627, hx627_0, hx627_1, hx627_2, hx627_3, hx627_4⟩ := at_T32 HR0_1.out a1 p627 q627; cases e627; have hn627_0 : ad627.block ≠ gb626 := Nat.ne_of_lt (Nat.lt_of_lt_of_le (bl1 hx627_0) GW626.out); have hn627_1 : ad627.block ≠ gb626 := Nat.ne_of_lt (Nat.lt_of_lt_of_le (bl1 hx627_0) GW626.out); replace hx627_0 := hcell HB.out hx627_0; replace hx627_1 := hcell HB.out hx627_1; replace hx627_2 := hcell HB.out hx627_2; replace hx627_3 := hcell HB.out hx627_3; replace hx627_4 := hcell HB.out hx627_4; replace hx627_0 := (cell_far (p := ⟨gb626, 0, none⟩) (fx hn627_0) (.int .i64 10000001)).trans hx627_0; replace hx627_1 := (cell_far (p := ⟨gb626, 0, none⟩) (fx hn627_0) (.int .i64 10000001)).trans hx627_1; replace hx627_2 := (cell_far (p := ⟨gb626, 0, none⟩) (fx hn627_0) (.int .i64 10000001)).trans hx627_2; replace hx627_3 := (cell_far (p := ⟨gb626, 0, none⟩) (fx hn627_0) (.int .i64 10000001)).trans hx627_3; replace hx627_4 := (cell_far (p := ⟨gb626, 0, none⟩) (fx hn627_0) (.int .i64 10000001)).trans hx627_4; replace hx627_0 := (cell_far (p := ⟨gb626, 1, none⟩) (fx hn627_1) (.int .i64 (-1))).trans hx627_0; replace hx627_1 := (cell_far (p := ⟨gb626, 1, none⟩) (fx hn627_1) (.int .i64 (-1))).trans hx627_1; replace hx627_2 := (cell_far (p := ⟨gb626, 1, none⟩) (fx hn627_1) (.int .i64 (-1))).trans hx627_2; replace hx627_3 := (cell_far (p := ⟨gb626, 1, none⟩) (fx hn627_1) (.int .i64 (-1))).trans hx627_3; replace hx627_4 := (cell_far (p := ⟨gb626, 1, none⟩) (fx hn627_1) (.int .i64 (-1))).trans hx627_4; clear hn627_0; clear hn627_1; replace p627 := eq_true p627; replace q627 := eq_true q627))
 go_loopg [8] k (fun kq v8 w' => ∃ (x8_1 : Int) (x627000_1 : Int) (x627001_1 : Int), v8 = .int .i64 x8_1 ∧ Aside0 (quinariaref02_Carries.l0 kq a1 a2 x8_1 l0_0 l0_1 x627000_1 x627001_1 = some (r1, r2)) ∧ Aside0 (kq ≤ k) ∧ Aside0 (w'.heap[gb624]? = some (.cells #[(.slice A0_0 l0_0.length c0_0), (.slice (some ad627) l0_1.length c0_1)] 25 (0, 0))) ∧ Aside0 (w'.heap[gb625]? = some (.cells #[.int .i64 0, .int .i64 0] 30 (0, 0))) ∧ Aside0 (w'.heap[gb626]? = some (.cells #[.int .i64 x627000_1, .int .i64 x627001_1] 30 (0, 0))) ∧ Aside0 (Below w.heap.size w w'))
 case atStart => exact ⟨((rd_T32 l0_1 a1).f3.f0), (10000001), ((-1)), u0, H', ⟨Nat.le_refl _⟩, ⟨by refine uK ?_; refine blk_far ?_ NB624_626.out _; refine uK ?_; refine blk_far ?_ NB624_626.out _; refine uK ?_; exact BK624.out⟩, ⟨by refine uK ?_; refine blk_far ?_ NB625_626.out _; refine uK ?_; refine blk_far ?_ NB625_626.out _; refine uK ?_; exact BK625.out⟩, ⟨by refine uK ?_; refine blk_put (cs := #[.int .i64 10000001, .int .i64 0]) ?_ 1 _ rfl; refine uK ?_; refine blk_put (cs := #[.int .i64 0, .int .i64 0]) ?_ 0 _ rfl; refine uK ?_; exact BK626.out⟩, ⟨uB⟩⟩
 case round =>
  clear H'
  try clear c1; try clear p2; try clear c4; try clear c4b0; try clear c5; try clear c5b0; try clear c6; try clear p6; try clear q6; try clear hx6; try clear c9; try clear c10; try clear c12; try clear hcz11_0; try clear hcz11_1; try clear hcz13_0; try clear hcz13_1; try clear hfz11_0; try clear hfz11_1; try clear hfz13_0; try clear hfz13_1; try clear hx627_0; try clear hx627_1; try clear hx627_2; try clear hx627_3; try clear hx627_4; try clear p627; try clear q627
  obtain ⟨x8_1, x627000_1, x627001_1, rfl, HA, HK1, BK624, BK625, BK626, HB⟩ := hrel
  cases gk with
  | zero => exact absurd HA.out (by simp [quinariaref02_Carries.l0])
  | succ k1 =>
   have H := HA.out
   clear HA
   simp only [quinariaref02_Carries.l0] at H
   obtain ⟨c14, H⟩ := ifs H
   replace c14 := decide_eq_true c14
   obtain ⟨c15, H⟩ := ifs H
   replace c15 := decide_eq_true c15
   by_cases c16 : x8_1 ≤ ((rd_T32 l0_1 a1).f3.f1)
   ·rw [if_pos c16] at H
    replace c16 := decide_eq_true c16
    replace H := Option.bind_eq_some_iff.mp H
    obtain ⟨t629, A170, H⟩ := H
    replace H : (quinariaref02_Carries.l0 k1 a1 a2 (wrap64 (x8_1 + 1)) l0_0 l0_1 (mn x627000_1 t629) (mx x627001_1 t629)) = some (r1, r2) := H
    have A17 := Aside0.mk A170
    clear A170
    obtain ⟨ji18, hji18⟩ : ∃ j_ : Int, (mn x627000_1 t629) = j_ := ⟨_, rfl⟩
    replace H : (quinariaref02_Carries.l0 k1 a1 a2 (wrap64 (x8_1 + 1)) l0_0 l0_1 ji18 (mx x627001_1 t629)) = some (r1, r2) := by first | (rw [hji18] at H; exact H) | (simp only [hji18] at H ⊢; exact H)
    (try rw [hji18] at A17)
    have hji18_ : (if t629 < x627000_1 then t629 else x627000_1) = ji18 := hji18
    obtain ⟨ji19, hji19⟩ : ∃ j_ : Int, (mx x627001_1 t629) = j_ := ⟨_, rfl⟩
    replace H : (quinariaref02_Carries.l0 k1 a1 a2 (wrap64 (x8_1 + 1)) l0_0 l0_1 ji18 ji19) = some (r1, r2) := by first | (rw [hji19] at H; exact H) | (simp only [hji19] at H ⊢; exact H)
    (try rw [hji19] at A17)
    have hji19_ : (if x627001_1 < t629 then t629 else x627001_1) = ji19 := hji19
    have H' := Aside0.mk H
    clear H
    have hnb20 := NB624_625.out
    have hnc20 := NB625_624.out
    have hnb21 := NB624_626.out
    have hnc21 := NB626_624.out
    obtain ⟨hcz22_0, hcz22_1⟩ := cz2 BK624.out
    obtain ⟨hfz22_0, hfz22_1⟩ := fz2 BK624.out
    have p628 : 0 ≤ (a1 : Int) := of_decide_eq_true (by first | (with_reducible assumption) | assumption)
    have q628 : a1 < (l0_1.length : Int) := of_decide_eq_true (by first | (with_reducible assumption) | assumption)
    obtain ⟨ad628, e628, hx628_0, hx628_1, hx628_2, hx628_3, hx628_4⟩ := at_T32 HR0_1.out a1 p628 q628
    obtain rfl : ad627 = ad628 := (by injection e628)
    replace hx628_0 := hcell HB.out hx628_0
    replace hx628_1 := hcell HB.out hx628_1
    replace hx628_2 := hcell HB.out hx628_2
    replace hx628_3 := hcell HB.out hx628_3
    replace hx628_4 := hcell HB.out hx628_4
    replace p628 := eq_true p628
    replace q628 := eq_true q628
    go_wp2_with (first | ((with_reducible refine gate_callee (f := 19) rfl ?_); refine goesL_ (some 33) rfl rfl Tryz.func19 (by kernel_rfl) rfl #[.agg #[.slice A0_0 l0_0.length c0_0, .slice (some ad627) l0_1.length c0_1], .int .i64 a1, .int .i64 a2, .int .i64 x8_1] rfl uM ?_; (with_reducible refine (quinariaref02_Cups.calls _ _ l0_0 _ _ l0_1 a1 a2 x8_1 t629 _ ?side1 ?side2 ?side3 ?side4 A17.out).mono ?_); (case side1 => repeat (first | exact (Kd.C_below HR0_0.out HB.out) | (with_reducible refine Kd.C_alloc ?_ _) | (with_reducible refine Kd.C_drewN ?_ _) | (with_reducible refine Kd.C_drew ?_))); (case side2 => exact HC0_0.out); (case side3 => repeat (first | exact (Kd.C_below HR0_1.out HB.out) | (with_reducible refine Kd.C_alloc ?_ _) | (with_reducible refine Kd.C_drewN ?_ _) | (with_reducible refine Kd.C_drew ?_))); (case side4 => exact HC0_1.out); rintro e w23 ⟨rfl, hb⟩; refine ⟨_, rfl, ?_⟩; replace BK624 := Aside0.mk (blk_below (uK BK624.out) hb); replace BK625 := Aside0.mk (blk_below (uK BK625.out) hb); replace BK626 := Aside0.mk (blk_below (uK BK626.out) hb); replace HB := Aside0.mk (below_step uB hb); (try clear hb); (try clear hb2); (try clear hk); (try clear hi); have hnb24 := NB626_625.out; have hnc24 := NB625_626.out; obtain ⟨hcz25_0, hcz25_1⟩ := cz2 BK626.out; obtain ⟨hfz25_0, hfz25_1⟩ := fz2 BK626.out))
    go_roundg k1
    case measure => have := HK1.out; omega
    case rel => exact ⟨(wrap64 (x8_1 + 1)), (ji18), (ji19), u0, H', ⟨by have := HK1.out; omega⟩, ⟨by refine uK ?_; refine blk_far ?_ NB624_626.out _; refine uK ?_; refine blk_far ?_ NB624_626.out _; refine uK ?_; exact BK624.out⟩, ⟨by refine uK ?_; refine blk_far ?_ NB625_626.out _; refine uK ?_; refine blk_far ?_ NB625_626.out _; refine uK ?_; exact BK625.out⟩, ⟨by refine uK ?_; refine blk_put (cs := #[.int .i64 ji18, .int .i64 x627001_1]) ?_ 1 _ rfl; refine uK ?_; refine blk_put (cs := #[.int .i64 x627000_1, .int .i64 x627001_1]) ?_ 0 _ rfl; refine uK ?_; exact BK626.out⟩, ⟨uB⟩⟩
   ·rw [if_neg c16] at H
    replace c16 := decide_eq_false c16
    simp only [Option.some.injEq, Prod.mk.injEq] at H
    obtain ⟨rfl, rfl⟩ := H
    have hnb26 := NB624_625.out
    have hnc26 := NB625_624.out
    have hnb27 := NB624_626.out
    have hnc27 := NB626_624.out
    obtain ⟨hcz28_0, hcz28_1⟩ := cz2 BK624.out
    obtain ⟨hfz28_0, hfz28_1⟩ := fz2 BK624.out
    have p628 : 0 ≤ (a1 : Int) := of_decide_eq_true (by first | (with_reducible assumption) | assumption)
    have q628 : a1 < (l0_1.length : Int) := of_decide_eq_true (by first | (with_reducible assumption) | assumption)
    obtain ⟨ad628, e628, hx628_0, hx628_1, hx628_2, hx628_3, hx628_4⟩ := at_T32 HR0_1.out a1 p628 q628
    obtain rfl : ad627 = ad628 := (by injection e628)
    replace hx628_0 := hcell HB.out hx628_0
    replace hx628_1 := hcell HB.out hx628_1
    replace hx628_2 := hcell HB.out hx628_2
    replace hx628_3 := hcell HB.out hx628_3
    replace hx628_4 := hcell HB.out hx628_4
    replace p628 := eq_true p628
    replace q628 := eq_true q628
    have hnb29 := NB626_625.out
    have hnc29 := NB625_626.out
    obtain ⟨hcz30_0, hcz30_1⟩ := cz2 BK626.out
    obtain ⟨hfz30_0, hfz30_1⟩ := fz2 BK626.out
    obtain ⟨hcz31_0, hcz31_1⟩ := cz2 BK625.out
    obtain ⟨hfz31_0, hfz31_1⟩ := fz2 BK625.out
    go_wp2
    refine bodyPost_ret (results_cell_row rfl _ _ gb625 30 #[.int .i64 x627000_1, .int .i64 x627001_1] (0, 0) _ rfl (by refine uK ?_; refine blk_put (cs := #[.int .i64 x627000_1, .int .i64 0]) ?_ 1 _ rfl; refine uK ?_; refine blk_put (cs := #[.int .i64 0, .int .i64 0]) ?_ 0 _ rfl; refine uK ?_; exact BK625.out) Tryz.underlying30 rfl (by kernel_rfl)) rfl ?_
    exact ⟨uE, uB⟩
end Go.Proofs.YtdmdahafiiggiaaGreatDoor.K
end
section
namespace Go.Proofs.YtdmdahafiiggiaaGreatDoor.K
open Go.RowKit Go.Proofs.YtdmdahafiiggiaaGreatDoorW.PrintWords Go.Proofs.YtdmdahafiiggiaaGreatDoorW.PrintLast Go.Proofs.YtdmdahafiiggiaaGreatDoorW.PrintMore
attribute [local go_sem] max2_int min2_int max_two min_two max_three min_three max_four min_four
set_option linter.unusedVariables false
set_option linter.unusedSimpArgs false
def quinariaref02_Line.l0 : Nat → List Int → Int → List Int → List (S32) → Int → Int → Option (Int × Int)
 | 0, _, _, _, _, _, _ => none
 | k + 1, x1, x6, x631000, x631001, x633000, x633001 => if x6 < (x631001.length : Int) then (if 0 ≤ x6 then (if x6 < (x1.length : Int) then ((quinariaref02_Carries.f k x631000 x631001 x6 (rd x1 x6)).bind fun bt634 => (quinariaref02_Line.l0 k x1 (wrap64 (x6 + 1)) x631000 x631001 (mn x633000 bt634.1) (mn x633001 bt634.2))) else (none)) else (none)) else (some (x633000, x633001))
def quinariaref02_Line.f (k : Nat) (l0_0 : List Int) (l0_1 : List (S32)) (l1 : List Int) : Option (Int × Int) := quinariaref02_Line.l0 k l1 0 l0_0 l0_1 10000001 10000001
def quinariaref02_Line.T5 : Bool × List (List Nat × List Nat) := (true, [([], []), ([], []), ([], []), ([], []), ([2, 3], [2, 3]), ([4], [4]), ([0, 1, 5], [0, 1, 5]), ([], []), ([7, 6, 6, 0, 1, 2, 3, 4, 5, 6, 7], [6, 7])])
def quinariaref02_Line.B5 : List Nat := [0, 0, 0, 0, 12, 28, 63, 0, 255]
theorem quinariaref02_Line.tab5 : rtab .any (opsOf Tryz.f23 5) = quinariaref02_Line.T5 := by kernel_rfl
theorem quinariaref02_Line.bits5 : waitsOk quinariaref02_Line.T5.2 quinariaref02_Line.B5 = true := by kernel_rfl
set_option maxHeartbeats 8000000 in
set_option maxRecDepth 100000 in
theorem quinariaref02_Line.calls (k : Nat) (A0_0 : Option Addr) (c0_0 : Nat) (l0_0 : List Int) (A0_1 : Option Addr) (c0_1 : Nat) (l0_1 : List (S32)) (A1 : Option Addr) (c1 : Nat) (l1 : List Int) (r1 : Int) (r2 : Int) (w : World) (hr0_0 : Kd.C (Kd.int .i64) w A0_0 l0_0.length l0_0) (hc0_0 : l0_0.length ≤ c0_0) (hr0_1 : Kd.C k32 w A0_1 l0_1.length l0_1) (hc0_1 : l0_1.length ≤ c0_1) (hr1 : Kd.C (Kd.int .i64) w A1 l1.length l1) (hc1 : l1.length ≤ c1) (h : quinariaref02_Line.f k l0_0 l0_1 l1 = some (r1, r2)) :
  Calls Tryz.prog 23 #[.agg #[.slice A0_0 l0_0.length c0_0, .slice A0_1 l0_1.length c0_1], .slice A1 l1.length c1] w fun e w' => e = .returned (.agg #[.int .i64 r1, .int .i64 r2]) ∧ Below w.heap.size w w' := by
 have hu25 := Tryz.underlying25
 have hu30 := Tryz.underlying30
 have HR0_0 := Aside0.mk hr0_0
 have HC0_0 := Aside0.mk hc0_0
 clear hr0_0 hc0_0
 have HR0_1 := Aside0.mk hr0_1
 have HC0_1 := Aside0.mk hc0_1
 clear hr0_1 hc0_1
 have HR1 := Aside0.mk hr1
 have HC1 := Aside0.mk hc1
 clear hr1 hc1
 have HB := Aside0.mk (Below.refl w.heap.size w)
 have H : (quinariaref02_Line.l0 k l1 0 l0_0 l0_1 10000001 10000001) = some (r1, r2) := h
 clear h
 have H' := Aside0.mk H
 clear H
 go_enter Tryz.func23, Tryz.ntmps23
 go_wp2_with (first | ((with_reducible refine gate_dst (N := 2) rfl ?_); refine bxe 2 #[.slice A0_0 l0_0.length c0_0, .slice A0_1 l0_1.length c0_1] 25 ?_; intro gb630 hg w3 hbox hb; have n0_ := Aside0.mk (below_step uB hb); have n1_ := Aside0.mk (hbox); have n2_ := gw hg; have n3_ := gw hg; clear HB; have HB := n0_; have BK630 := n1_; have GW630 := n2_; have GE630 := n3_; clear n0_ n1_ n2_ n3_; clear hb hbox hg) | ((with_reducible refine gate_dst (N := 4) rfl ?_); refine bxe 4 #[.int .i64 0, .int .i64 0] 30 ?_; intro gb631 hg w4 hbox hb; have n0_ := Aside0.mk (blk_below (uK BK630.out) hb); have n1_ := Aside0.mk (below_step uB hb); have n2_ := Aside0.mk (hbox); have n3_ := gw hg; have n4_ := gw hg; have n5_ := nb BK630 hg; have n6_ := nc BK630 hg; clear BK630; clear HB; have BK630 := n0_; have HB := n1_; have BK631 := n2_; have GW631 := n3_; have GE631 := n4_; have NB630_631 := n5_; have NB631_630 := n6_; clear n0_ n1_ n2_ n3_ n4_ n5_ n6_; clear hb hbox hg) | ((with_reducible refine gate_dst (N := 5) rfl ?_); refine bxe 5 #[.int .i64 0, .int .i64 0] 30 ?_; intro gb632 hg w5 hbox hb; have n0_ := Aside0.mk (blk_below (uK BK630.out) hb); have n1_ := Aside0.mk (blk_below (uK BK631.out) hb); have n2_ := Aside0.mk (below_step uB hb); have n3_ := Aside0.mk (hbox); have n4_ := gw hg; have n5_ := gw hg; have n6_ := nb BK630 hg; have n7_ := nc BK630 hg; have n8_ := nb BK631 hg; have n9_ := nc BK631 hg; clear BK630; clear BK631; clear HB; have BK630 := n0_; have BK631 := n1_; have HB := n2_; have BK632 := n3_; have GW632 := n4_; have GE632 := n5_; have NB630_632 := n6_; have NB632_630 := n7_; have NB631_632 := n8_; have NB632_631 := n9_; clear n0_ n1_ n2_ n3_ n4_ n5_ n6_ n7_ n8_ n9_; clear hb hbox hg; have hnb6 := NB632_630.out; have hnc6 := NB630_632.out; have hnb7 := NB632_631.out; have hnc7 := NB631_632.out; obtain ⟨hcz8_0, hcz8_1⟩ := cz2 BK632.out; obtain ⟨hfz8_0, hfz8_1⟩ := fz2 BK632.out))
 go_loopg [6] k (fun kq v6 w' => ∃ (x6_1 : Int) (x633000_1 : Int) (x633001_1 : Int), v6 = .int .i64 x6_1 ∧ Aside0 (quinariaref02_Line.l0 kq l1 x6_1 l0_0 l0_1 x633000_1 x633001_1 = some (r1, r2)) ∧ Aside0 (kq ≤ k) ∧ Aside0 (w'.heap[gb630]? = some (.cells #[(.slice A0_0 l0_0.length c0_0), (.slice A0_1 l0_1.length c0_1)] 25 (0, 0))) ∧ Aside0 (w'.heap[gb631]? = some (.cells #[.int .i64 0, .int .i64 0] 30 (0, 0))) ∧ Aside0 (w'.heap[gb632]? = some (.cells #[.int .i64 x633000_1, .int .i64 x633001_1] 30 (0, 0))) ∧ Aside0 (Below w.heap.size w w'))
 case atStart => exact ⟨(0), (10000001), (10000001), u0, H', ⟨Nat.le_refl _⟩, ⟨by refine uK ?_; refine blk_far ?_ NB630_632.out _; refine uK ?_; refine blk_far ?_ NB630_632.out _; refine uK ?_; exact BK630.out⟩, ⟨by refine uK ?_; refine blk_far ?_ NB631_632.out _; refine uK ?_; refine blk_far ?_ NB631_632.out _; refine uK ?_; exact BK631.out⟩, ⟨by refine uK ?_; refine blk_put (cs := #[.int .i64 10000001, .int .i64 0]) ?_ 1 _ rfl; refine uK ?_; refine blk_put (cs := #[.int .i64 0, .int .i64 0]) ?_ 0 _ rfl; refine uK ?_; exact BK632.out⟩, ⟨uB⟩⟩
 case round =>
  clear H'
  try clear c1; try clear c2; try clear p2; try clear c6; try clear c7; try clear hcz8_0; try clear hcz8_1; try clear hfz8_0; try clear hfz8_1
  obtain ⟨x6_1, x633000_1, x633001_1, rfl, HA, HK1, BK630, BK631, BK632, HB⟩ := hrel
  cases gk with
  | zero => exact absurd HA.out (by simp [quinariaref02_Line.l0])
  | succ k1 =>
   have H := HA.out
   clear HA
   simp only [quinariaref02_Line.l0] at H
   by_cases c9 : x6_1 < (l0_1.length : Int)
   ·rw [if_pos c9] at H
    replace c9 := decide_eq_true c9
    obtain ⟨c10, H⟩ := ifs H
    replace c10 := decide_eq_true c10
    obtain ⟨c11, H⟩ := ifs H
    replace c11 := decide_eq_true c11
    replace H := Option.bind_eq_some_iff.mp H
    obtain ⟨⟨t634, t635⟩, A120, H⟩ := H
    replace H : (quinariaref02_Line.l0 k1 l1 (wrap64 (x6_1 + 1)) l0_0 l0_1 (mn x633000_1 t634) (mn x633001_1 t635)) = some (r1, r2) := H
    have A12 := Aside0.mk A120
    clear A120
    obtain ⟨ji13, hji13⟩ : ∃ j_ : Int, (mn x633000_1 t634) = j_ := ⟨_, rfl⟩
    replace H : (quinariaref02_Line.l0 k1 l1 (wrap64 (x6_1 + 1)) l0_0 l0_1 ji13 (mn x633001_1 t635)) = some (r1, r2) := by first | (rw [hji13] at H; exact H) | (simp only [hji13] at H ⊢; exact H)
    (try rw [hji13] at A12)
    have hji13_ : (if t634 < x633000_1 then t634 else x633000_1) = ji13 := hji13
    obtain ⟨ji14, hji14⟩ : ∃ j_ : Int, (mn x633001_1 t635) = j_ := ⟨_, rfl⟩
    replace H : (quinariaref02_Line.l0 k1 l1 (wrap64 (x6_1 + 1)) l0_0 l0_1 ji13 ji14) = some (r1, r2) := by first | (rw [hji14] at H; exact H) | (simp only [hji14] at H ⊢; exact H)
    (try rw [hji14] at A12)
    have hji14_ : (if t635 < x633001_1 then t635 else x633001_1) = ji14 := hji14
    have H' := Aside0.mk H
    clear H
    have hnb15 := NB630_631.out
    have hnc15 := NB631_630.out
    have hnb16 := NB630_632.out
    have hnc16 := NB632_630.out
    obtain ⟨hcz17_0, hcz17_1⟩ := cz2 BK630.out
    obtain ⟨hfz17_0, hfz17_1⟩ := fz2 BK630.out
    try go_wp2
    replace BK630 := Aside0.mk (blk_drew BK630.out)
    replace BK631 := Aside0.mk (blk_drew BK631.out)
    replace BK632 := Aside0.mk (blk_drew BK632.out)
    replace HB := Aside0.mk (below_drew1 HB.out)
    have p633 : 0 ≤ (x6_1 : Int) := of_decide_eq_true (by first | (with_reducible assumption) | assumption)
    have q633 : x6_1 < (l1.length : Int) := of_decide_eq_true (by first | (with_reducible assumption) | assumption)
    obtain ⟨ad633, e633, hx633_0⟩ := Kd.at_int HR1.out x6_1 p633 q633
    have hw633_0 := hx633_0
    cases e633
    replace hx633_0 := hcell HB.out hx633_0
    replace p633 := eq_true p633
    replace q633 := eq_true q633
    refine start_ (n := 9) (S := fun w' => w'.cell? ⟨gb630, 0, none⟩ = some (.slice A0_0 l0_0.length c0_0) ∧ w'.cell? ⟨gb630, 1, none⟩ = some (.slice A0_1 l0_1.length c0_1) ∧ w'.cell? (ad633.add (x6_1).toNat) = some (.int .i64 (rd l1 x6_1))) (ds := []) (bl 9 0) (by kernel_rfl) rfl rfl ⟨(blk_cell BK630.out 0).trans rfl, (blk_cell BK630.out 1).trans rfl, (hcell HB.out hw633_0)⟩ (fun hHeld => ?_); refine with_tabW quinariaref02_Line.tab5 quinariaref02_Line.bits5 (fun HT_ HW_ => ?_)
    generalize wr.drew = w18 at BK630 BK631 BK632 HB hx633_0 hHeld ⊢
    refine pu 1 17 9 2 ?_
    refine pu 2 18 9 6 ?_
    refine pu 3 19 9 14 ?_
    refine pu 4 20 9 30 ?_
    refine tk3 0 16 9 31 hHeld ?_
    refine tk3 5 21 9 63 hHeld ?_
    refine join_ (σ := Nat) 1 (bl 9 255) (fun s_ => [(22, .agg #[.int .i64 t634, .int .i64 t635]), (7, .pointer (some ⟨s_, 0, none⟩))]) (fun s_ w' => (w'.cell? ⟨gb630, 0, none⟩ = some (.slice A0_0 l0_0.length c0_0) ∧ w'.cell? ⟨gb630, 1, none⟩ = some (.slice A0_1 l0_1.length c0_1) ∧ w'.cell? (ad633.add (x6_1).toNat) = some (.int .i64 (rd l1 x6_1))) ∧ (w'.heap[gb630]? = some (.cells #[.slice A0_0 l0_0.length c0_0, .slice A0_1 l0_1.length c0_1] 25 (0, 0))) ∧ (w'.heap[gb631]? = some (.cells #[.int .i64 0, .int .i64 0] 30 (0, 0))) ∧ (w'.heap[gb632]? = some (.cells #[.int .i64 x633000_1, .int .i64 x633001_1] 30 (0, 0))) ∧ (w'.heap[s_]? = some (.cells #[.int .i64 0, .int .i64 0] 30 (0, 0))) ∧ (w.heap.size ≤ s_) ∧ (w.heap.size ≤ s_) ∧ (gb630 ≠ s_) ∧ (s_ ≠ gb630) ∧ (gb631 ≠ s_) ∧ (s_ ≠ gb631) ∧ (gb632 ≠ s_) ∧ (s_ ≠ gb632) ∧ (Below w.heap.size w w')) ?_ ?_
    rotate_left
    ·intro hCont
     refine two_ (i := 6) (j := 7) (Ni := some 22) (Nj := some 7) (bl 9 127) (bl 9 191) rfl rfl rfl rfl (two_of HT_.out (by kernel_rfl)) (by decide) (by decide) (fun K hK => ?_) (fun K hK => ?_)
     ·skip
      refine goes_ Tryz.func62 (by kernel_rfl) rfl #[.agg #[.slice A0_0 l0_0.length c0_0, .slice A0_1 l0_1.length c0_1], .int .i64 x6_1, .int .i64 (rd l1 x6_1)] (by rfl) rfl rfl uM ?_
      with_reducible refine (quinariaref02_Carries.calls k1 _ _ l0_0 _ _ l0_1 x6_1 (rd l1 x6_1) t634 t635 _ ?side1 ?side2 ?side3 ?side4 A12.out).mono ?_
      (case side1 => repeat (first | exact (Kd.C_below HR0_0.out HB.out) | (with_reducible refine Kd.C_alloc ?_ _) | (with_reducible refine Kd.C_drewN ?_ _) | (with_reducible refine Kd.C_drew ?_)))
      (case side2 => exact HC0_0.out)
      (case side3 => repeat (first | exact (Kd.C_below HR0_1.out HB.out) | (with_reducible refine Kd.C_alloc ?_ _) | (with_reducible refine Kd.C_drewN ?_ _) | (with_reducible refine Kd.C_drew ?_)))
      (case side4 => exact HC0_1.out)
      rintro e w19 ⟨rfl, hb⟩
      refine ⟨_, rfl, ?_⟩
      replace BK630 := Aside0.mk (blk_below (uK BK630.out) hb)
      replace BK631 := Aside0.mk (blk_below (uK BK631.out) hb)
      replace BK632 := Aside0.mk (blk_below (uK BK632.out) hb)
      replace HB := Aside0.mk (below_step uB hb)
      (try clear hb)
      (try clear hb2)
      (try clear hk)
      (try clear hi)
      refine hK.out _ _ ⟨(blk_cell BK630.out 0).trans rfl, (blk_cell BK630.out 1).trans rfl, (hcell HB.out hw633_0)⟩ (fun hHeld => ?_)
      clear hK K
      refine nm ?_
      refine one_ (i := 7) (N := some 7) (bl 9 255) rfl rfl (one_of HT_.out (by kernel_rfl)) (by decide) (fun K hK => ?_)
      refine bxs 7 #[.int .i64 0, .int .i64 0] 30 ?_
      intro gb636 hg w20 hbox hb
      have n0_ := Aside0.mk (blk_below (uK BK630.out) hb)
      have n1_ := Aside0.mk (blk_below (uK BK631.out) hb)
      have n2_ := Aside0.mk (blk_below (uK BK632.out) hb)
      have n3_ := Aside0.mk (below_step uB hb)
      have n4_ := Aside0.mk (hbox)
      have n5_ := gw hg
      have n6_ := gw hg
      have n7_ := nb BK630 hg
      have n8_ := nc BK630 hg
      have n9_ := nb BK631 hg
      have n10_ := nc BK631 hg
      have n11_ := nb BK632 hg
      have n12_ := nc BK632 hg
      clear BK630 BK631 BK632 HB
      have BK630 := n0_
      have BK631 := n1_
      have BK632 := n2_
      have HB := n3_
      have BK636 := n4_
      have GW636 := n5_
      have GE636 := n6_
      have NB630_636 := n7_
      have NB636_630 := n8_
      have NB631_636 := n9_
      have NB636_631 := n10_
      have NB632_636 := n11_
      have NB636_632 := n12_
      clear n0_ n1_ n2_ n3_ n4_ n5_ n6_ n7_ n8_ n9_ n10_ n11_ n12_
      clear hb hbox hg
      refine hK.out _ _ ⟨(blk_cell BK630.out 0).trans rfl, (blk_cell BK630.out 1).trans rfl, (hcell HB.out hw633_0)⟩ (fun hHeld => ?_)
      clear hK K
      refine nm ?_
      exact norm_ (by simp only [putAll, Act.put, List.setIfInBounds_toArray, List.set_cons_zero, List.set_cons_succ]) (hCont (gb636) _ ⟨hHeld, (uK BK630.out), (uK BK631.out), (uK BK632.out), (uK BK636.out), GW636.out, GE636.out, NB630_636.out, NB636_630.out, NB631_636.out, NB636_631.out, NB632_636.out, NB636_632.out, uB⟩)
     ·skip
      refine bxs 7 #[.int .i64 0, .int .i64 0] 30 ?_
      intro gb636 hg w19 hbox hb
      have n0_ := Aside0.mk (blk_below (uK BK630.out) hb)
      have n1_ := Aside0.mk (blk_below (uK BK631.out) hb)
      have n2_ := Aside0.mk (blk_below (uK BK632.out) hb)
      have n3_ := Aside0.mk (below_step uB hb)
      have n4_ := Aside0.mk (hbox)
      have n5_ := gw hg
      have n6_ := gw hg
      have n7_ := nb BK630 hg
      have n8_ := nc BK630 hg
      have n9_ := nb BK631 hg
      have n10_ := nc BK631 hg
      have n11_ := nb BK632 hg
      have n12_ := nc BK632 hg
      clear BK630 BK631 BK632 HB
      have BK630 := n0_
      have BK631 := n1_
      have BK632 := n2_
      have HB := n3_
      have BK636 := n4_
      have GW636 := n5_
      have GE636 := n6_
      have NB630_636 := n7_
      have NB636_630 := n8_
      have NB631_636 := n9_
      have NB636_631 := n10_
      have NB632_636 := n11_
      have NB636_632 := n12_
      clear n0_ n1_ n2_ n3_ n4_ n5_ n6_ n7_ n8_ n9_ n10_ n11_ n12_
      clear hb hbox hg
      refine hK.out _ _ ⟨(blk_cell BK630.out 0).trans rfl, (blk_cell BK630.out 1).trans rfl, (hcell HB.out hw633_0)⟩ (fun hHeld => ?_)
      clear hK K
      refine nm ?_
      refine one_ (i := 6) (N := some 22) (bl 9 255) rfl rfl (one_of HT_.out (by kernel_rfl)) (by decide) (fun K hK => ?_)
      refine goes_ Tryz.func62 (by kernel_rfl) rfl #[.agg #[.slice A0_0 l0_0.length c0_0, .slice A0_1 l0_1.length c0_1], .int .i64 x6_1, .int .i64 (rd l1 x6_1)] (by rfl) rfl rfl uM ?_
      with_reducible refine (quinariaref02_Carries.calls k1 _ _ l0_0 _ _ l0_1 x6_1 (rd l1 x6_1) t634 t635 _ ?side1 ?side2 ?side3 ?side4 A12.out).mono ?_
      (case side1 => repeat (first | exact (Kd.C_below HR0_0.out HB.out) | (with_reducible refine Kd.C_alloc ?_ _) | (with_reducible refine Kd.C_drewN ?_ _) | (with_reducible refine Kd.C_drew ?_)))
      (case side2 => exact HC0_0.out)
      (case side3 => repeat (first | exact (Kd.C_below HR0_1.out HB.out) | (with_reducible refine Kd.C_alloc ?_ _) | (with_reducible refine Kd.C_drewN ?_ _) | (with_reducible refine Kd.C_drew ?_)))
      (case side4 => exact HC0_1.out)
      rintro e w20 ⟨rfl, hb⟩
      refine ⟨_, rfl, ?_⟩
      replace BK630 := Aside0.mk (blk_below (uK BK630.out) hb)
      replace BK631 := Aside0.mk (blk_below (uK BK631.out) hb)
      replace BK632 := Aside0.mk (blk_below (uK BK632.out) hb)
      replace BK636 := Aside0.mk (blk_below (uK BK636.out) hb)
      replace HB := Aside0.mk (below_step uB hb)
      (try clear hb)
      (try clear hb2)
      (try clear hk)
      (try clear hi)
      refine hK.out _ _ ⟨(blk_cell BK630.out 0).trans rfl, (blk_cell BK630.out 1).trans rfl, (hcell HB.out hw633_0)⟩ (fun hHeld => ?_)
      clear hK K
      refine nm ?_
      exact norm_ (by simp only [putAll, Act.put, List.setIfInBounds_toArray, List.set_cons_zero, List.set_cons_succ]) (hCont (gb636) _ ⟨hHeld, (uK BK630.out), (uK BK631.out), (uK BK632.out), (uK BK636.out), GW636.out, GE636.out, NB630_636.out, NB636_630.out, NB631_636.out, NB636_631.out, NB632_636.out, NB636_632.out, uB⟩)
    rintro gb636 w21 ⟨hS_, h0_, h1_, h2_, h3_, h4_, h5_, h6_, h7_, h8_, h9_, h10_, h11_, h12_⟩
    try dsimp only at h0_ h1_ h2_ h3_ h4_ h5_ h6_ h7_ h8_ h9_ h10_ h11_ h12_
    have n0_ := Aside0.mk h0_
    have n1_ := Aside0.mk h1_
    have n2_ := Aside0.mk h2_
    have n3_ := Aside0.mk h3_
    have n4_ := Aside0.mk h4_
    have n5_ := Aside0.mk h5_
    have n6_ := Aside0.mk h6_
    have n7_ := Aside0.mk h7_
    have n8_ := Aside0.mk h8_
    have n9_ := Aside0.mk h9_
    have n10_ := Aside0.mk h10_
    have n11_ := Aside0.mk h11_
    have n12_ := Aside0.mk h12_
    clear BK630 BK631 BK632 HB
    clear h0_ h1_ h2_ h3_ h4_ h5_ h6_ h7_ h8_ h9_ h10_ h11_ h12_
    have BK630 := n0_
    have BK631 := n1_
    have BK632 := n2_
    have BK636 := n3_
    have GW636 := n4_
    have GE636 := n5_
    have NB630_636 := n6_
    have NB636_630 := n7_
    have NB631_636 := n8_
    have NB636_631 := n9_
    have NB632_636 := n10_
    have NB636_632 := n11_
    have HB := n12_
    clear n0_ n1_ n2_ n3_ n4_ n5_ n6_ n7_ n8_ n9_ n10_ n11_ n12_
    have hHeld : w21.cell? ⟨gb630, 0, none⟩ = some (.slice A0_0 l0_0.length c0_0) ∧ w21.cell? ⟨gb630, 1, none⟩ = some (.slice A0_1 l0_1.length c0_1) ∧ w21.cell? (ad633.add (x6_1).toNat) = some (.int .i64 (rd l1 x6_1)) := hS_
    refine nm ?_
    refine one_ (i := 8) (N := none) (bl 9 511) rfl rfl (one_of HT_.out (by kernel_rfl)) (by decide) (fun K hK => ?_)
    have hs22 := (blk_cell BK636.out 0).trans rfl
    have hfs22 := blk_frozen BK636.out 0
    have hns22_0 := NB630_636.out
    have hns22_1 := NB631_636.out
    have hns22_2 := NB632_636.out
    have hms22_0 := NB636_630.out
    have hms22_1 := NB636_631.out
    have hms22_2 := NB636_632.out
    have hs23 := (blk_cell BK636.out 1).trans rfl
    have hfs23 := blk_frozen BK636.out 1
    have hns23_0 := NB630_636.out
    have hns23_1 := NB631_636.out
    have hns23_2 := NB632_636.out
    have hms23_0 := NB636_630.out
    have hms23_1 := NB636_631.out
    have hms23_2 := NB636_632.out
    refine skip_ (w1 := ?_) (by rfl) rfl ?_ ?_
    rotate_left
    ·go_simp
     rfl
    refine hK.out _ _ ⟨((cf gb636 NB630_636.out).trans (((cf gb636 NB630_636.out).trans (hHeld.1)))), ((cf gb636 NB630_636.out).trans (((cf gb636 NB630_636.out).trans (hHeld.2.1)))), ((cf gb636 (fl hw633_0 GW636)).trans (((cf gb636 (fl hw633_0 GW636)).trans (hHeld.2.2))))⟩ (fun hHeld => ?_)
    clear hK K
    refine done_ (done_of HT_.out (by kernel_rfl)) ?_
    have hnb24 := NB632_631.out
    have hnc24 := NB631_632.out
    have hnb25 := NB632_636.out
    have hnc25 := NB636_632.out
    obtain ⟨hcz26_0, hcz26_1⟩ := cz2 BK632.out
    obtain ⟨hfz26_0, hfz26_1⟩ := fz2 BK632.out
    have hnb27 := NB636_630.out
    have hnc27 := NB630_636.out
    have hnb28 := NB636_631.out
    have hnc28 := NB631_636.out
    obtain ⟨hcz29_0, hcz29_1⟩ := cz2 BK636.out
    obtain ⟨hfz29_0, hfz29_1⟩ := fz2 BK636.out
    try go_wp2
    go_roundg k1
    case measure => have := HK1.out; omega
    case rel => exact ⟨(wrap64 (x6_1 + 1)), (ji13), (ji14), u0, H', ⟨by have := HK1.out; omega⟩, ⟨by refine uK ?_; refine blk_far ?_ NB630_632.out _; refine uK ?_; refine blk_far ?_ NB630_632.out _; refine uK ?_; refine blk_far ?_ NB630_636.out _; refine uK ?_; refine blk_far ?_ NB630_636.out _; refine uK ?_; exact BK630.out⟩, ⟨by refine uK ?_; refine blk_far ?_ NB631_632.out _; refine uK ?_; refine blk_far ?_ NB631_632.out _; refine uK ?_; refine blk_far ?_ NB631_636.out _; refine uK ?_; refine blk_far ?_ NB631_636.out _; refine uK ?_; exact BK631.out⟩, ⟨by refine uK ?_; refine blk_put (cs := #[.int .i64 ji13, .int .i64 x633001_1]) ?_ 1 _ rfl; refine uK ?_; refine blk_put (cs := #[.int .i64 x633000_1, .int .i64 x633001_1]) ?_ 0 _ rfl; refine uK ?_; refine blk_far ?_ NB632_636.out _; refine uK ?_; refine blk_far ?_ NB632_636.out _; refine uK ?_; exact BK632.out⟩, ⟨uB⟩⟩
   ·rw [if_neg c9] at H
    replace c9 := decide_eq_false c9
    simp only [Option.some.injEq, Prod.mk.injEq] at H
    obtain ⟨rfl, rfl⟩ := H
    have hnb30 := NB630_631.out
    have hnc30 := NB631_630.out
    have hnb31 := NB630_632.out
    have hnc31 := NB632_630.out
    obtain ⟨hcz32_0, hcz32_1⟩ := cz2 BK630.out
    obtain ⟨hfz32_0, hfz32_1⟩ := fz2 BK630.out
    have hnb33 := NB632_631.out
    have hnc33 := NB631_632.out
    obtain ⟨hcz34_0, hcz34_1⟩ := cz2 BK632.out
    obtain ⟨hfz34_0, hfz34_1⟩ := fz2 BK632.out
    obtain ⟨hcz35_0, hcz35_1⟩ := cz2 BK631.out
    obtain ⟨hfz35_0, hfz35_1⟩ := fz2 BK631.out
    go_wp2
    refine bodyPost_ret (results_cell_row rfl _ _ gb631 30 #[.int .i64 x633000_1, .int .i64 x633001_1] (0, 0) _ rfl (by refine uK ?_; refine blk_put (cs := #[.int .i64 x633000_1, .int .i64 0]) ?_ 1 _ rfl; refine uK ?_; refine blk_put (cs := #[.int .i64 0, .int .i64 0]) ?_ 0 _ rfl; refine uK ?_; exact BK631.out) Tryz.underlying30 rfl (by kernel_rfl)) rfl ?_
    exact ⟨uE, uB⟩
end Go.Proofs.YtdmdahafiiggiaaGreatDoor.K
end
section
namespace Go.Proofs.YtdmdahafiiggiaaGreatDoor.K
open Go.RowKit Go.Proofs.YtdmdahafiiggiaaGreatDoorW.PrintWords Go.Proofs.YtdmdahafiiggiaaGreatDoorW.PrintLast Go.Proofs.YtdmdahafiiggiaaGreatDoorW.PrintMore
attribute [local go_sem] max2_int min2_int max_two min_two max_three min_three max_four min_four
set_option linter.unusedVariables false
set_option linter.unusedSimpArgs false
mutual
def quinariaref02_Narrowest.l0 : Nat → List Int → List Int → Int → List Int → List (S32) → Option (List Int)
 | 0, _, _, _, _, _ => none
 | k + 1, x1, x5, x6, x638000, x638001 => if x6 < (x638001.length : Int) then (if 0 ≤ x6 then (if x6 < (x1.length : Int) then ((quinariaref02_Carries.f k x638000 x638001 x6 (rd x1 x6)).bind fun bt639 => (quinariaref02_Narrowest.l1 k x1 x5 x6 bt639.1 true 0 x638000 x638001)) else (none)) else (none)) else (some x5)
def quinariaref02_Narrowest.l1 : Nat → List Int → List Int → Int → Int → Bool → Int → List Int → List (S32) → Option (List Int)
 | 0, _, _, _, _, _, _, _, _ => none
 | k + 1, x1, x5, x6, x7, x8, x9, x638000, x638001 => if x9 < (x638001.length : Int) then (if x8 = true then (if x9 = x6 then (quinariaref02_Narrowest.l1 k x1 x5 x6 x7 true (wrap64 (x9 + 1)) x638000 x638001) else (if 0 ≤ x9 then (if x9 < (x1.length : Int) then ((quinariaref02_Carries.f k x638000 x638001 x9 (rd x1 x9)).bind fun bt642 => (quinariaref02_Narrowest.l1 k x1 x5 x6 x7 (decide (x7 ≤ bt642.2)) (wrap64 (x9 + 1)) x638000 x638001)) else (none)) else (none))) else (quinariaref02_Narrowest.l1 k x1 x5 x6 x7 false (wrap64 (x9 + 1)) x638000 x638001)) else (if x8 = true then (if x5.length < 17592186044416 then (quinariaref02_Narrowest.l0 k x1 (x5 ++ [x6]) (wrap64 (x6 + 1)) x638000 x638001) else (none)) else (quinariaref02_Narrowest.l0 k x1 x5 (wrap64 (x6 + 1)) x638000 x638001))
end
def quinariaref02_Narrowest.f (k : Nat) (l0_0 : List Int) (l0_1 : List (S32)) (l1 : List Int) : Option (List Int) := quinariaref02_Narrowest.l0 k l1 ([] : List Int) 0 l0_0 l0_1
def quinariaref02_Narrowest.T5 : Bool × List (List Nat × List Nat) := (true, [([], []), ([], []), ([], []), ([], []), ([2, 3], [2, 3]), ([4], [4]), ([0, 1, 5], [0, 1, 5]), ([6], [6]), ([7, 6, 0, 1, 2, 3, 4, 5, 6, 7], [7])])
def quinariaref02_Narrowest.B5 : List Nat := [0, 0, 0, 0, 12, 28, 63, 127, 255]
theorem quinariaref02_Narrowest.tab5 : rtab .any (opsOf Tryz.f25 5) = quinariaref02_Narrowest.T5 := by kernel_rfl
theorem quinariaref02_Narrowest.bits5 : waitsOk quinariaref02_Narrowest.T5.2 quinariaref02_Narrowest.B5 = true := by kernel_rfl
def quinariaref02_Narrowest.T10 : Bool × List (List Nat × List Nat) := (true, [([], []), ([0], [0]), ([1], [1]), ([1], [1]), ([2, 3, 1], [1, 2, 3]), ([4, 1, 1], [1, 4]), ([5], [5]), ([5], [5]), ([5], [5]), ([5], [5]), ([5], [5]), ([9, 10, 5], [5, 9, 10]), ([11, 5], [5, 11]), ([7, 8, 12, 5, 5], [5, 7, 8, 12]), ([13, 5], [5, 13]), ([6, 14, 5], [5, 6, 14]), ([5, 15, 1], [1, 5, 15]), ([1, 16], [1, 16]), ([17, 13, 0, 1, 2, 3, 4, 5, 6, 7, 8, 9, 10, 11, 12, 13, 14, 15, 16, 17], [0, 17])])
def quinariaref02_Narrowest.B10 : List Nat := [0, 1, 3, 3, 15, 31, 63, 63, 63, 63, 63, 1599, 3647, 8127, 16319, 32767, 65535, 131071, 262143]
theorem quinariaref02_Narrowest.tab10 : rtab .any (opsOf Tryz.f25 10) = quinariaref02_Narrowest.T10 := by kernel_rfl
theorem quinariaref02_Narrowest.bits10 : waitsOk quinariaref02_Narrowest.T10.2 quinariaref02_Narrowest.B10 = true := by kernel_rfl
set_option maxHeartbeats 8000000 in
set_option maxRecDepth 100000 in
theorem quinariaref02_Narrowest.calls (k : Nat) (A0_0 : Option Addr) (c0_0 : Nat) (l0_0 : List Int) (A0_1 : Option Addr) (c0_1 : Nat) (l0_1 : List (S32)) (A1 : Option Addr) (c1 : Nat) (l1 : List Int) (r : List Int) (w : World) (hr0_0 : Kd.C (Kd.int .i64) w A0_0 l0_0.length l0_0) (hc0_0 : l0_0.length ≤ c0_0) (hr0_1 : Kd.C k32 w A0_1 l0_1.length l0_1) (hc0_1 : l0_1.length ≤ c0_1) (hr1 : Kd.C (Kd.int .i64) w A1 l1.length l1) (hc1 : l1.length ≤ c1) (h : quinariaref02_Narrowest.f k l0_0 l0_1 l1 = some r) :
  Calls Tryz.prog 25 #[.agg #[.slice A0_0 l0_0.length c0_0, .slice A0_1 l0_1.length c0_1], .slice A1 l1.length c1] w fun e w' => ∃ v0_ : Value, e = .returned (v0_) ∧ Kd.R (Kd.int .i64) 3 w' w.heap.size (fun _ => True) v0_ r ∧ Below w.heap.size w w' := by
 have hu25 := Tryz.underlying25
 have hfl30_0 := fld30_0
 have hfl30_1 := fld30_1
 have HR0_0 := Aside0.mk hr0_0
 have HC0_0 := Aside0.mk hc0_0
 clear hr0_0 hc0_0
 have HR0_1 := Aside0.mk hr0_1
 have HC0_1 := Aside0.mk hc0_1
 clear hr0_1 hc0_1
 have HR1 := Aside0.mk hr1
 have HC1 := Aside0.mk hc1
 clear hr1 hc1
 have HB := Aside0.mk (Below.refl w.heap.size w)
 have H : (quinariaref02_Narrowest.l0 k l1 ([] : List Int) 0 l0_0 l0_1) = some r := h
 clear h
 have H' := Aside0.mk H
 clear H
 go_enter Tryz.func25, Tryz.ntmps25
 go_wp2_with (first | ((with_reducible refine gate_dst (N := 2) rfl ?_); refine bxe 2 #[.slice A0_0 l0_0.length c0_0, .slice A0_1 l0_1.length c0_1] 25 ?_; intro gb637 hg w3 hbox hb; have n0_ := Aside0.mk (below_step uB hb); have n1_ := Aside0.mk (hbox); have n2_ := gw hg; have n3_ := gw hg; clear HB; have HB := n0_; have BK637 := n1_; have GW637 := n2_; have GE637 := n3_; clear n0_ n1_ n2_ n3_; clear hb hbox hg))
 go_loopg [5, 6] k (fun kq v5 v6 w' => ∃ (x5_1 : List Int) (x6_1 : Int), v6 = .int .i64 x6_1 ∧ Aside0 (quinariaref02_Narrowest.l0 kq l1 x5_1 x6_1 l0_0 l0_1 = some r) ∧ Aside0 (kq ≤ k) ∧ Aside0 (Kd.R (Kd.int .i64) 3 w' w.heap.size (fun _ => True) v5 x5_1) ∧ Aside0 (w'.heap[gb637]? = some (.cells #[(.slice A0_0 l0_0.length c0_0), (.slice A0_1 l0_1.length c0_1)] 25 (0, 0))) ∧ Aside0 (Below w.heap.size w w'))
 case atStart => exact ⟨(([] : List Int)), (0), u0, H', ⟨Nat.le_refl _⟩, ⟨uN⟩, ⟨uK BK637.out⟩, ⟨uB⟩⟩
 case round =>
  clear H'
  try clear c1; try clear c2; try clear p2
  obtain ⟨x5_1, x6_1, rfl, HA, HK1, HO_5, BK637, HB⟩ := hrel
  cases gk with
  | zero => exact absurd HA.out (by simp [quinariaref02_Narrowest.l0])
  | succ k1 =>
   have H := HA.out
   clear HA
   simp only [quinariaref02_Narrowest.l0] at H
   by_cases c4 : x6_1 < (l0_1.length : Int)
   ·rw [if_pos c4] at H
    replace c4 := decide_eq_true c4
    obtain ⟨c5, H⟩ := ifs H
    replace c5 := decide_eq_true c5
    obtain ⟨c6, H⟩ := ifs H
    replace c6 := decide_eq_true c6
    replace H := Option.bind_eq_some_iff.mp H
    obtain ⟨⟨t639, t640⟩, A70, H⟩ := H
    replace H : (quinariaref02_Narrowest.l1 k1 l1 x5_1 x6_1 t639 true 0 l0_0 l0_1) = some r := H
    have A7 := Aside0.mk A70
    clear A70
    have H' := Aside0.mk H
    clear H
    obtain ⟨hcz8_0, hcz8_1⟩ := cz2 BK637.out
    obtain ⟨hfz8_0, hfz8_1⟩ := fz2 BK637.out
    try go_wp2
    replace HO_5 := Aside0.mk (Kd.R_drew HO_5.out)
    replace BK637 := Aside0.mk (blk_drew BK637.out)
    replace HB := Aside0.mk (below_drew1 HB.out)
    have p638 : 0 ≤ (x6_1 : Int) := of_decide_eq_true (by first | (with_reducible assumption) | assumption)
    have q638 : x6_1 < (l1.length : Int) := of_decide_eq_true (by first | (with_reducible assumption) | assumption)
    obtain ⟨ad638, e638, hx638_0⟩ := Kd.at_int HR1.out x6_1 p638 q638
    have hw638_0 := hx638_0
    cases e638
    replace hx638_0 := hcell HB.out hx638_0
    replace p638 := eq_true p638
    replace q638 := eq_true q638
    refine start_ (n := 9) (S := fun w' => w'.cell? ⟨gb637, 0, none⟩ = some (.slice A0_0 l0_0.length c0_0) ∧ w'.cell? ⟨gb637, 1, none⟩ = some (.slice A0_1 l0_1.length c0_1) ∧ w'.cell? (ad638.add (x6_1).toNat) = some (.int .i64 (rd l1 x6_1))) (ds := []) (bl 9 0) (by kernel_rfl) rfl rfl ⟨(blk_cell BK637.out 0).trans rfl, (blk_cell BK637.out 1).trans rfl, (hcell HB.out hw638_0)⟩ (fun hHeld => ?_); refine with_tabW quinariaref02_Narrowest.tab5 quinariaref02_Narrowest.bits5 (fun HT_ HW_ => ?_)
    generalize wr.drew = w9 at HO_5 BK637 HB hx638_0 hHeld ⊢
    refine pu 1 18 9 2 ?_
    refine pu 2 19 9 6 ?_
    refine pu 3 20 9 14 ?_
    refine pu 4 21 9 30 ?_
    refine tk3 0 17 9 31 hHeld ?_
    refine tk3 5 22 9 63 hHeld ?_
    refine one_ (i := 6) (N := some 23) (bl 9 127) rfl rfl (one_of HT_.out (by kernel_rfl)) (by decide) (fun K hK => ?_)
    refine goes_ Tryz.func62 (by kernel_rfl) rfl #[.agg #[.slice A0_0 l0_0.length c0_0, .slice A0_1 l0_1.length c0_1], .int .i64 x6_1, .int .i64 (rd l1 x6_1)] (by rfl) rfl rfl uM ?_
    with_reducible refine (quinariaref02_Carries.calls k1 _ _ l0_0 _ _ l0_1 x6_1 (rd l1 x6_1) t639 t640 _ ?side1 ?side2 ?side3 ?side4 A7.out).mono ?_
    (case side1 => repeat (first | exact (Kd.C_below HR0_0.out HB.out) | (with_reducible refine Kd.C_alloc ?_ _) | (with_reducible refine Kd.C_drewN ?_ _) | (with_reducible refine Kd.C_drew ?_)))
    (case side2 => exact HC0_0.out)
    (case side3 => repeat (first | exact (Kd.C_below HR0_1.out HB.out) | (with_reducible refine Kd.C_alloc ?_ _) | (with_reducible refine Kd.C_drewN ?_ _) | (with_reducible refine Kd.C_drew ?_)))
    (case side4 => exact HC0_1.out)
    rintro e w10 ⟨rfl, hb⟩
    refine ⟨_, rfl, ?_⟩
    replace HO_5 := Aside0.mk (Kd.R_below (uR HO_5.out) hb)
    replace BK637 := Aside0.mk (blk_below (uK BK637.out) hb)
    replace HB := Aside0.mk (below_step uB hb)
    (try clear hb)
    (try clear hb2)
    (try clear hk)
    (try clear hi)
    refine hK.out _ _ ⟨(blk_cell BK637.out 0).trans rfl, (blk_cell BK637.out 1).trans rfl, (hcell HB.out hw638_0)⟩ (fun hHeld => ?_)
    clear hK K
    refine nm ?_
    refine pu 7 24 9 255 ?_
    refine pu 8 7 9 511 ?_
    refine done_ (done_of HT_.out (by kernel_rfl)) ?_
    try go_wp2
    go_loopg [8, 9] k1 (fun kq v8 v9 w' => ∃ (x8_2 : Bool) (x9_2 : Int), v8 = .bool x8_2 ∧ v9 = .int .i64 x9_2 ∧ Aside0 (quinariaref02_Narrowest.l1 kq l1 x5_1 x6_1 t639 x8_2 x9_2 l0_0 l0_1 = some r) ∧ Aside0 (kq ≤ k1) ∧ Aside0 (Kd.R (Kd.int .i64) 3 w' w.heap.size (fun _ => True) u5 x5_1) ∧ Aside0 (w'.heap[gb637]? = some (.cells #[(.slice A0_0 l0_0.length c0_0), (.slice A0_1 l0_1.length c0_1)] 25 (0, 0))) ∧ Aside0 (Below w.heap.size w w'))
    case atStart => exact ⟨(true), (0), u0, u0, H', ⟨Nat.le_refl _⟩, ⟨uR HO_5.out⟩, ⟨uK BK637.out⟩, ⟨uB⟩⟩
    case round =>
     clear H'
     try clear c1; try clear c2; try clear p2; try clear c4; try clear c4b0; try clear c5; try clear c5b0; try clear c6; try clear c6b0; try clear p6; try clear q6; try clear hx6; try clear hcz8_0; try clear hcz8_1; try clear hfz8_0; try clear hfz8_1; try clear hx638_0; try clear p2; try clear p638; try clear q638
     obtain ⟨x8_2, x9_2, rfl, rfl, HA, HK2, HO_5, BK637, HB⟩ := hrel
     cases gk with
     | zero => exact absurd HA.out (by simp [quinariaref02_Narrowest.l1])
     | succ k2 =>
      have H := HA.out
      clear HA
      simp only [quinariaref02_Narrowest.l1] at H
      by_cases c11 : x9_2 < (l0_1.length : Int)
      ·rw [if_pos c11] at H
       replace c11 := decide_eq_true c11
       by_cases c12 : x8_2 = true
       ·subst c12
        have H1 : (if x9_2 = x6_1 then (quinariaref02_Narrowest.l1 k2 l1 x5_1 x6_1 t639 true (wrap64 (x9_2 + 1)) l0_0 l0_1) else (if 0 ≤ x9_2 then (if x9_2 < (l1.length : Int) then ((quinariaref02_Carries.f k2 l0_0 l0_1 x9_2 (rd l1 x9_2)).bind fun bt642 => (quinariaref02_Narrowest.l1 k2 l1 x5_1 x6_1 t639 (decide (t639 ≤ bt642.2)) (wrap64 (x9_2 + 1)) l0_0 l0_1)) else (none)) else (none))) = some r := by rw [if_pos rfl] at H; exact H
        clear H
        have H := H1
        clear H1
        by_cases c13 : x9_2 = x6_1
        ·rw [if_pos c13] at H
         have c13b0 : (x9_2 == x6_1) = true := beq_iff_eq.mpr c13
         have c13b1 : (x9_2 != x6_1) = false := bne_eq_false_iff_eq.mpr c13
         clear c13
         have H' := Aside0.mk H
         clear H
         obtain ⟨hcz14_0, hcz14_1⟩ := cz2 BK637.out
         obtain ⟨hfz14_0, hfz14_1⟩ := fz2 BK637.out
         try go_wp2
         replace HO_5 := Aside0.mk (Kd.R_drew HO_5.out)
         replace BK637 := Aside0.mk (blk_drew BK637.out)
         replace HB := Aside0.mk (below_drew1 HB.out)
         refine start_ (n := 19) (S := fun w' => True) (ds := []) (bl 19 0) (by kernel_rfl) rfl rfl trivial (fun hHeld => ?_); refine with_tabW quinariaref02_Narrowest.tab10 quinariaref02_Narrowest.bits10 (fun HT_ HW_ => ?_)
         generalize wr.drew = w15 at HO_5 BK637 HB hHeld ⊢
         refine pu 0 32 19 1 ?_
         refine pu 1 33 19 3 ?_
         refine pu 2 34 19 7 ?_
         refine pu 3 35 19 15 ?_
         refine pu 4 36 19 31 ?_
         refine pu 5 37 19 63 ?_
         refine pure_ (i := 6) (N := some 38) (v := undef) (a' := ?_) (bl 19 127) rfl rfl (any_of HT_.out (by kernel_rfl)) (fun _ _ _ h => h) (Or.inr ⟨by rfl, rfl⟩) ?_ ?_
         rotate_left
         ·simp only [Act.put, List.setIfInBounds_toArray, List.set_cons_zero, List.set_cons_succ, i64_w, i32_w]
          rfl
         refine pure_ (i := 7) (N := some 39) (v := undef) (a' := ?_) (bl 19 255) rfl rfl (any_of HT_.out (by kernel_rfl)) (fun _ _ _ h => h) (Or.inr ⟨by rfl, rfl⟩) ?_ ?_
         rotate_left
         ·simp only [Act.put, List.setIfInBounds_toArray, List.set_cons_zero, List.set_cons_succ, i64_w, i32_w]
          rfl
         refine pure_ (i := 8) (N := some 40) (v := undef) (a' := ?_) (bl 19 511) rfl rfl (any_of HT_.out (by kernel_rfl)) (fun _ _ _ h => h) (Or.inr ⟨by rfl, rfl⟩) ?_ ?_
         rotate_left
         ·simp only [Act.put, List.setIfInBounds_toArray, List.set_cons_zero, List.set_cons_succ, i64_w, i32_w]
          rfl
         refine pure_ (i := 9) (N := some 41) (v := undef) (a' := ?_) (bl 19 1023) rfl rfl (any_of HT_.out (by kernel_rfl)) (fun _ _ _ h => h) (Or.inr ⟨by rfl, rfl⟩) ?_ ?_
         rotate_left
         ·simp only [Act.put, List.setIfInBounds_toArray, List.set_cons_zero, List.set_cons_succ, i64_w, i32_w]
          rfl
         refine pure_ (i := 10) (N := some 42) (v := undef) (a' := ?_) (bl 19 2047) rfl rfl (any_of HT_.out (by kernel_rfl)) (fun _ _ _ h => h) (Or.inr ⟨by rfl, rfl⟩) ?_ ?_
         rotate_left
         ·simp only [Act.put, List.setIfInBounds_toArray, List.set_cons_zero, List.set_cons_succ, i64_w, i32_w]
          rfl
         refine pure_ (i := 11) (N := some 43) (v := undef) (a' := ?_) (bl 19 4095) rfl rfl (any_of HT_.out (by kernel_rfl)) (fun _ _ _ h => h) (Or.inr ⟨by rfl, rfl⟩) ?_ ?_
         rotate_left
         ·simp only [Act.put, List.setIfInBounds_toArray, List.set_cons_zero, List.set_cons_succ, i64_w, i32_w]
          rfl
         refine pure_ (i := 12) (N := some 44) (v := undef) (a' := ?_) (bl 19 8191) rfl rfl (any_of HT_.out (by kernel_rfl)) (fun _ _ _ h => h) (Or.inr ⟨by rfl, rfl⟩) ?_ ?_
         rotate_left
         ·simp only [Act.put, List.setIfInBounds_toArray, List.set_cons_zero, List.set_cons_succ, i64_w, i32_w]
          rfl
         refine pure_ (i := 13) (N := some 45) (v := undef) (a' := ?_) (bl 19 16383) rfl rfl (any_of HT_.out (by kernel_rfl)) (fun _ _ _ h => h) (Or.inr ⟨by rfl, rfl⟩) ?_ ?_
         rotate_left
         ·simp only [Act.put, List.setIfInBounds_toArray, List.set_cons_zero, List.set_cons_succ, i64_w, i32_w]
          rfl
         refine pure_ (i := 14) (N := some 46) (v := undef) (a' := ?_) (bl 19 32767) rfl rfl (any_of HT_.out (by kernel_rfl)) (fun _ _ _ h => h) (Or.inr ⟨by rfl, rfl⟩) ?_ ?_
         rotate_left
         ·simp only [Act.put, List.setIfInBounds_toArray, List.set_cons_zero, List.set_cons_succ, i64_w, i32_w]
          rfl
         refine pure_ (i := 15) (N := some 47) (v := undef) (a' := ?_) (bl 19 65535) rfl rfl (any_of HT_.out (by kernel_rfl)) (fun _ _ _ h => h) (Or.inr ⟨by rfl, rfl⟩) ?_ ?_
         rotate_left
         ·simp only [Act.put, List.setIfInBounds_toArray, List.set_cons_zero, List.set_cons_succ, i64_w, i32_w]
          rfl
         refine pu 16 48 19 131071 ?_
         refine pu 17 49 19 262143 ?_
         refine pu 18 8 19 524287 ?_
         refine done_ (done_of HT_.out (by kernel_rfl)) ?_
         try go_wp2
         go_roundg k2
         case measure => have := HK1.out; have := HK2.out; omega
         case rel => exact ⟨(true), (wrap64 (x9_2 + 1)), u0, u0, H', ⟨by have := HK1.out; have := HK2.out; omega⟩, ⟨uR HO_5.out⟩, ⟨uK BK637.out⟩, ⟨uB⟩⟩
        ·rw [if_neg c13] at H
         have c13b0 : (x9_2 == x6_1) = false := beq_eq_false_iff_ne.mpr c13
         have c13b1 : (x9_2 != x6_1) = true := bne_iff_ne.mpr c13
         obtain ⟨c16, H⟩ := ifs H
         replace c16 := decide_eq_true c16
         obtain ⟨c17, H⟩ := ifs H
         replace c17 := decide_eq_true c17
         replace H := Option.bind_eq_some_iff.mp H
         obtain ⟨⟨t642, t643⟩, A180, H⟩ := H
         replace H : (quinariaref02_Narrowest.l1 k2 l1 x5_1 x6_1 t639 (decide (t639 ≤ t643)) (wrap64 (x9_2 + 1)) l0_0 l0_1) = some r := H
         have A18 := Aside0.mk A180
         clear A180
         have H' := Aside0.mk H
         clear H
         obtain ⟨hcz19_0, hcz19_1⟩ := cz2 BK637.out
         obtain ⟨hfz19_0, hfz19_1⟩ := fz2 BK637.out
         try go_wp2
         replace HO_5 := Aside0.mk (Kd.R_drew HO_5.out)
         replace BK637 := Aside0.mk (blk_drew BK637.out)
         replace HB := Aside0.mk (below_drew1 HB.out)
         have p641 : 0 ≤ (x9_2 : Int) := of_decide_eq_true (by first | (with_reducible assumption) | assumption)
         have q641 : x9_2 < (l1.length : Int) := of_decide_eq_true (by first | (with_reducible assumption) | assumption)
         obtain ⟨ad641, e641, hx641_0⟩ := Kd.at_int HR1.out x9_2 p641 q641
         have hw641_0 := hx641_0
         obtain rfl : ad638 = ad641 := (by injection e641)
         replace hx641_0 := hcell HB.out hx641_0
         replace p641 := eq_true p641
         replace q641 := eq_true q641
         refine start_ (n := 19) (S := fun w' => w'.cell? ⟨gb637, 0, none⟩ = some (.slice A0_0 l0_0.length c0_0) ∧ w'.cell? ⟨gb637, 1, none⟩ = some (.slice A0_1 l0_1.length c0_1) ∧ w'.cell? (ad638.add (x9_2).toNat) = some (.int .i64 (rd l1 x9_2))) (ds := []) (bl 19 0) (by kernel_rfl) rfl rfl ⟨(blk_cell BK637.out 0).trans rfl, (blk_cell BK637.out 1).trans rfl, (hcell HB.out hw641_0)⟩ (fun hHeld => ?_); refine with_tabW quinariaref02_Narrowest.tab10 quinariaref02_Narrowest.bits10 (fun HT_ HW_ => ?_)
         generalize wr.drew = w20 at HO_5 BK637 HB hx641_0 hHeld ⊢
         refine pu 0 32 19 1 ?_
         refine pu 1 33 19 3 ?_
         refine pu 2 34 19 7 ?_
         refine pu 3 35 19 15 ?_
         refine pu 4 36 19 31 ?_
         refine pu 5 37 19 63 ?_
         refine pu 6 38 19 127 ?_
         refine pu 8 40 19 383 ?_
         refine pu 9 41 19 895 ?_
         refine pu 10 42 19 1919 ?_
         refine pu 11 43 19 3967 ?_
         refine tk3 7 39 19 4095 hHeld ?_
         refine tk3 12 44 19 8191 hHeld ?_
         refine one_ (i := 13) (N := some 45) (bl 19 16383) rfl rfl (one_of HT_.out (by kernel_rfl)) (by decide) (fun K hK => ?_)
         refine goes_ Tryz.func62 (by kernel_rfl) rfl #[.agg #[.slice A0_0 l0_0.length c0_0, .slice A0_1 l0_1.length c0_1], .int .i64 x9_2, .int .i64 (rd l1 x9_2)] (by rfl) rfl rfl uM ?_
         with_reducible refine (quinariaref02_Carries.calls k2 _ _ l0_0 _ _ l0_1 x9_2 (rd l1 x9_2) t642 t643 _ ?side1 ?side2 ?side3 ?side4 A18.out).mono ?_
         (case side1 => repeat (first | exact (Kd.C_below HR0_0.out HB.out) | (with_reducible refine Kd.C_alloc ?_ _) | (with_reducible refine Kd.C_drewN ?_ _) | (with_reducible refine Kd.C_drew ?_)))
         (case side2 => exact HC0_0.out)
         (case side3 => repeat (first | exact (Kd.C_below HR0_1.out HB.out) | (with_reducible refine Kd.C_alloc ?_ _) | (with_reducible refine Kd.C_drewN ?_ _) | (with_reducible refine Kd.C_drew ?_)))
         (case side4 => exact HC0_1.out)
         rintro e w21 ⟨rfl, hb⟩
         refine ⟨_, rfl, ?_⟩
         replace HO_5 := Aside0.mk (Kd.R_below (uR HO_5.out) hb)
         replace BK637 := Aside0.mk (blk_below (uK BK637.out) hb)
         replace HB := Aside0.mk (below_step uB hb)
         (try clear hb)
         (try clear hb2)
         (try clear hk)
         (try clear hi)
         refine hK.out _ _ ⟨(blk_cell BK637.out 0).trans rfl, (blk_cell BK637.out 1).trans rfl, (hcell HB.out hw641_0)⟩ (fun hHeld => ?_)
         clear hK K
         refine nm ?_
         refine pu 14 46 19 32767 ?_
         refine pu 15 47 19 65535 ?_
         refine pu 16 48 19 131071 ?_
         refine pu 17 49 19 262143 ?_
         refine pu 18 8 19 524287 ?_
         refine done_ (done_of HT_.out (by kernel_rfl)) ?_
         try go_wp2
         go_roundg k2
         case measure => have := HK1.out; have := HK2.out; omega
         case rel => exact ⟨(decide (t639 ≤ t643)), (wrap64 (x9_2 + 1)), u0, u0, H', ⟨by have := HK1.out; have := HK2.out; omega⟩, ⟨uR HO_5.out⟩, ⟨uK BK637.out⟩, ⟨uB⟩⟩
       ·replace c12 := Bool.eq_false_iff.mpr c12
        subst c12
        have H1 : (quinariaref02_Narrowest.l1 k2 l1 x5_1 x6_1 t639 false (wrap64 (x9_2 + 1)) l0_0 l0_1) = some r := by rw [if_neg (show ¬ (false = true) by decide)] at H; exact H
        clear H
        have H := H1
        clear H1
        have H' := Aside0.mk H
        clear H
        obtain ⟨hcz22_0, hcz22_1⟩ := cz2 BK637.out
        obtain ⟨hfz22_0, hfz22_1⟩ := fz2 BK637.out
        try go_wp2
        replace HO_5 := Aside0.mk (Kd.R_drew HO_5.out)
        replace BK637 := Aside0.mk (blk_drew BK637.out)
        replace HB := Aside0.mk (below_drew1 HB.out)
        refine start_ (n := 19) (S := fun w' => True) (ds := []) (bl 19 0) (by kernel_rfl) rfl rfl trivial (fun hHeld => ?_); refine with_tabW quinariaref02_Narrowest.tab10 quinariaref02_Narrowest.bits10 (fun HT_ HW_ => ?_)
        generalize wr.drew = w23 at HO_5 BK637 HB hHeld ⊢
        refine pu 0 32 19 1 ?_
        refine pu 1 33 19 3 ?_
        refine pure_ (i := 2) (N := some 34) (v := undef) (a' := ?_) (bl 19 7) rfl rfl (any_of HT_.out (by kernel_rfl)) (fun _ _ _ h => h) (Or.inr ⟨by rfl, rfl⟩) ?_ ?_
        rotate_left
        ·simp only [Act.put, List.setIfInBounds_toArray, List.set_cons_zero, List.set_cons_succ, i64_w, i32_w]
         rfl
        refine pure_ (i := 3) (N := some 35) (v := undef) (a' := ?_) (bl 19 15) rfl rfl (any_of HT_.out (by kernel_rfl)) (fun _ _ _ h => h) (Or.inr ⟨by rfl, rfl⟩) ?_ ?_
        rotate_left
        ·simp only [Act.put, List.setIfInBounds_toArray, List.set_cons_zero, List.set_cons_succ, i64_w, i32_w]
         rfl
        refine pure_ (i := 4) (N := some 36) (v := undef) (a' := ?_) (bl 19 31) rfl rfl (any_of HT_.out (by kernel_rfl)) (fun _ _ _ h => h) (Or.inr ⟨by rfl, rfl⟩) ?_ ?_
        rotate_left
        ·simp only [Act.put, List.setIfInBounds_toArray, List.set_cons_zero, List.set_cons_succ, i64_w, i32_w]
         rfl
        refine pure_ (i := 5) (N := some 37) (v := undef) (a' := ?_) (bl 19 63) rfl rfl (any_of HT_.out (by kernel_rfl)) (fun _ _ _ h => h) (Or.inr ⟨by rfl, rfl⟩) ?_ ?_
        rotate_left
        ·simp only [Act.put, List.setIfInBounds_toArray, List.set_cons_zero, List.set_cons_succ, i64_w, i32_w]
         rfl
        refine pure_ (i := 6) (N := some 38) (v := undef) (a' := ?_) (bl 19 127) rfl rfl (any_of HT_.out (by kernel_rfl)) (fun _ _ _ h => h) (Or.inr ⟨by rfl, rfl⟩) ?_ ?_
        rotate_left
        ·simp only [Act.put, List.setIfInBounds_toArray, List.set_cons_zero, List.set_cons_succ, i64_w, i32_w]
         rfl
        refine pure_ (i := 7) (N := some 39) (v := undef) (a' := ?_) (bl 19 255) rfl rfl (any_of HT_.out (by kernel_rfl)) (fun _ _ _ h => h) (Or.inr ⟨by rfl, rfl⟩) ?_ ?_
        rotate_left
        ·simp only [Act.put, List.setIfInBounds_toArray, List.set_cons_zero, List.set_cons_succ, i64_w, i32_w]
         rfl
        refine pure_ (i := 8) (N := some 40) (v := undef) (a' := ?_) (bl 19 511) rfl rfl (any_of HT_.out (by kernel_rfl)) (fun _ _ _ h => h) (Or.inr ⟨by rfl, rfl⟩) ?_ ?_
        rotate_left
        ·simp only [Act.put, List.setIfInBounds_toArray, List.set_cons_zero, List.set_cons_succ, i64_w, i32_w]
         rfl
        refine pure_ (i := 9) (N := some 41) (v := undef) (a' := ?_) (bl 19 1023) rfl rfl (any_of HT_.out (by kernel_rfl)) (fun _ _ _ h => h) (Or.inr ⟨by rfl, rfl⟩) ?_ ?_
        rotate_left
        ·simp only [Act.put, List.setIfInBounds_toArray, List.set_cons_zero, List.set_cons_succ, i64_w, i32_w]
         rfl
        refine pure_ (i := 10) (N := some 42) (v := undef) (a' := ?_) (bl 19 2047) rfl rfl (any_of HT_.out (by kernel_rfl)) (fun _ _ _ h => h) (Or.inr ⟨by rfl, rfl⟩) ?_ ?_
        rotate_left
        ·simp only [Act.put, List.setIfInBounds_toArray, List.set_cons_zero, List.set_cons_succ, i64_w, i32_w]
         rfl
        refine pure_ (i := 11) (N := some 43) (v := undef) (a' := ?_) (bl 19 4095) rfl rfl (any_of HT_.out (by kernel_rfl)) (fun _ _ _ h => h) (Or.inr ⟨by rfl, rfl⟩) ?_ ?_
        rotate_left
        ·simp only [Act.put, List.setIfInBounds_toArray, List.set_cons_zero, List.set_cons_succ, i64_w, i32_w]
         rfl
        refine pure_ (i := 12) (N := some 44) (v := undef) (a' := ?_) (bl 19 8191) rfl rfl (any_of HT_.out (by kernel_rfl)) (fun _ _ _ h => h) (Or.inr ⟨by rfl, rfl⟩) ?_ ?_
        rotate_left
        ·simp only [Act.put, List.setIfInBounds_toArray, List.set_cons_zero, List.set_cons_succ, i64_w, i32_w]
         rfl
        refine pure_ (i := 13) (N := some 45) (v := undef) (a' := ?_) (bl 19 16383) rfl rfl (any_of HT_.out (by kernel_rfl)) (fun _ _ _ h => h) (Or.inr ⟨by rfl, rfl⟩) ?_ ?_
        rotate_left
        ·simp only [Act.put, List.setIfInBounds_toArray, List.set_cons_zero, List.set_cons_succ, i64_w, i32_w]
         rfl
        refine pure_ (i := 14) (N := some 46) (v := undef) (a' := ?_) (bl 19 32767) rfl rfl (any_of HT_.out (by kernel_rfl)) (fun _ _ _ h => h) (Or.inr ⟨by rfl, rfl⟩) ?_ ?_
        rotate_left
        ·simp only [Act.put, List.setIfInBounds_toArray, List.set_cons_zero, List.set_cons_succ, i64_w, i32_w]
         rfl
        refine pure_ (i := 15) (N := some 47) (v := undef) (a' := ?_) (bl 19 65535) rfl rfl (any_of HT_.out (by kernel_rfl)) (fun _ _ _ h => h) (Or.inr ⟨by rfl, rfl⟩) ?_ ?_
        rotate_left
        ·simp only [Act.put, List.setIfInBounds_toArray, List.set_cons_zero, List.set_cons_succ, i64_w, i32_w]
         rfl
        refine pure_ (i := 16) (N := some 48) (v := undef) (a' := ?_) (bl 19 131071) rfl rfl (any_of HT_.out (by kernel_rfl)) (fun _ _ _ h => h) (Or.inr ⟨by rfl, rfl⟩) ?_ ?_
        rotate_left
        ·simp only [Act.put, List.setIfInBounds_toArray, List.set_cons_zero, List.set_cons_succ, i64_w, i32_w]
         rfl
        refine pu 17 49 19 262143 ?_
        refine pu 18 8 19 524287 ?_
        refine done_ (done_of HT_.out (by kernel_rfl)) ?_
        try go_wp2
        go_roundg k2
        case measure => have := HK1.out; have := HK2.out; omega
        case rel => exact ⟨(false), (wrap64 (x9_2 + 1)), u0, u0, H', ⟨by have := HK1.out; have := HK2.out; omega⟩, ⟨uR HO_5.out⟩, ⟨uK BK637.out⟩, ⟨uB⟩⟩
      ·rw [if_neg c11] at H
       replace c11 := decide_eq_false c11
       by_cases c24 : x8_2 = true
       ·subst c24
        have H1 : (if x5_1.length < 17592186044416 then (quinariaref02_Narrowest.l0 k2 l1 (x5_1 ++ [x6_1]) (wrap64 (x6_1 + 1)) l0_0 l0_1) else (none)) = some r := by rw [if_pos rfl] at H; exact H
        clear H
        have H := H1
        clear H1
        obtain ⟨c25, H⟩ := ifs H
        have LMc25 := Aside0.mk c25
        clear c25
        obtain ⟨y644, hy644⟩ : ∃ y_ : List Int, y_ = (x5_1 ++ [x6_1]) := ⟨_, rfl⟩
        rw [← hy644] at H
        have Ny644 := Aside0.mk hy644
        clear hy644
        have H' := Aside0.mk H
        clear H
        obtain ⟨hcz26_0, hcz26_1⟩ := cz2 BK637.out
        obtain ⟨hfz26_0, hfz26_1⟩ := fz2 BK637.out
        go_wp2_with (first | ((with_reducible refine gate_builtin (b := .append) (xs := #[.tmp 51, .tmp 53]) rfl ?_); at_builtin; refine Kd.R_append (Kd.int .i64) (w0 := w) w.heap.size rfl (.tmp 51) (.tmp 53) 22 3 (.int .i64 0) 8 rfl Tryz.underlying22 info3 rfl (by decide) (by omega) u5 x5_1 x6_1 [.int .i64 x6_1] (fun _ => True) (fun _ => False) rfl rfl ?aP (fun _ hk => hk.elim) ?aF ?aO ?aB ?aS ?aL ?_; (case aP => exact rfl); (case aB => exact uB); (case aF => exact (fun _ _ => trivial)); (case aO => exact (uR HO_5.out)); (case aS => exact (below_size uB)); (case aL => have := LMc25.out; omega); intro v645 w27 ho hb hg hat; rw [← Ny644.out] at ho; replace BK637 := Aside0.mk (blk_grown (uK BK637.out) hg (Kd.R_ne HO_5.out BK637.out (by decide))); have HO646 := Aside0.mk (ho); replace HB := Aside0.mk (hb); clear HO_5; clear ho hb hg hat))
        go_roundg k2
        case measure => have := HK1.out; have := HK2.out; omega
        case rel => exact ⟨(y644), (wrap64 (x6_1 + 1)), u0, H', ⟨by have := HK1.out; have := HK2.out; omega⟩, ⟨uR HO646.out⟩, ⟨uK BK637.out⟩, ⟨uB⟩⟩
       ·replace c24 := Bool.eq_false_iff.mpr c24
        subst c24
        have H1 : (quinariaref02_Narrowest.l0 k2 l1 x5_1 (wrap64 (x6_1 + 1)) l0_0 l0_1) = some r := by rw [if_neg (show ¬ (false = true) by decide)] at H; exact H
        clear H
        have H := H1
        clear H1
        have H' := Aside0.mk H
        clear H
        obtain ⟨hcz28_0, hcz28_1⟩ := cz2 BK637.out
        obtain ⟨hfz28_0, hfz28_1⟩ := fz2 BK637.out
        go_wp2
        go_roundg k2
        case measure => have := HK1.out; have := HK2.out; omega
        case rel => exact ⟨(x5_1), (wrap64 (x6_1 + 1)), u0, H', ⟨by have := HK1.out; have := HK2.out; omega⟩, ⟨uR HO_5.out⟩, ⟨uK BK637.out⟩, ⟨uB⟩⟩
   ·rw [if_neg c4] at H
    replace c4 := decide_eq_false c4
    obtain rfl := Option.some.inj H
    obtain ⟨hcz29_0, hcz29_1⟩ := cz2 BK637.out
    obtain ⟨hfz29_0, hfz29_1⟩ := fz2 BK637.out
    go_wp2
    go_ret
    exact ⟨_, uE, uR HO_5.out, uB⟩
end Go.Proofs.YtdmdahafiiggiaaGreatDoor.K
end
section
namespace Go.Proofs.YtdmdahafiiggiaaGreatDoor.K
open Go.RowKit Go.Proofs.YtdmdahafiiggiaaGreatDoorW.PrintWords Go.Proofs.YtdmdahafiiggiaaGreatDoorW.PrintLast Go.Proofs.YtdmdahafiiggiaaGreatDoorW.PrintMore
attribute [local go_sem] max2_int min2_int max_two min_two max_three min_three max_four min_four
set_option linter.unusedVariables false
set_option linter.unusedSimpArgs false
attribute [local go_sem high] eqA30
mutual
def quinarialaw02_ChannelLines.j0 : Nat → List Int → Bool → List Int → List (S32) → Option (Bool)
 | 0, _, _, _, _ => none
 | k + 1, x1, x16, x648000, x648001 => if x16 = true then ((quinarialaw02_known.f k).bind fun t649 => (some t649)) else ((channel_Line.f k x648000 x648001 x1).bind fun bt650 => ((channel_Narrowest.f k x648000 x648001 x1).bind fun bt654 => ((quinariaref02_Right.f k x648000 x648001).bind fun t658 => (if t658 = true then ((quinariaref02_Ages.f k x648000 x648001 x1).bind fun t659 => (quinarialaw02_ChannelLines.j1 k x1 bt650.2.2 bt654.1 bt654.2 (!t659) x648000 x648001 bt650.1 bt650.2.1)) else (quinarialaw02_ChannelLines.j1 k x1 bt650.2.2 bt654.1 bt654.2 true x648000 x648001 bt650.1 bt650.2.1)))))
def quinarialaw02_ChannelLines.j1 : Nat → List Int → Int → List Int → Int → Bool → List Int → List (S32) → Int → Int → Option (Bool)
 | 0, _, _, _, _, _, _, _, _, _ => none
 | k + 1, x1, x6, x7, x8, x38, x648000, x648001, x654000, x654001 => if x38 = true then (if x6 = 2 then (if (x654000 == 0 && (x654001 == 0)) = true then (if x8 = 2 then (if (x7.length : Int) = 0 then ((quinarialaw02_known.f k).bind fun t660 => (some t660)) else (some false)) else (some false)) else (some false)) else (some false)) else (if x6 = 0 then ((quinariaref02_Line.f k x648000 x648001 x1).bind fun bt661 => (if (x654000 == bt661.1 && (x654001 == bt661.2)) = true then (if x8 = 0 then ((quinariaref02_Narrowest.f k x648000 x648001 x1).bind fun t663 => ((quinariaref02_Same.f k x7 t663).bind fun t666 => (if t666 = true then ((quinarialaw02_known.f k).bind fun t667 => (some t667)) else (some false)))) else (some false)) else (some false))) else (some false))
end
def quinarialaw02_ChannelLines.f (k : Nat) (l0_0 : List Int) (l0_1 : List (S32)) (l1 : List Int) : Option (Bool) := (quinarialaw02_short.f l0_0 l0_1).bind fun t648 => (if t648 = true then (quinarialaw02_ChannelLines.j0 k l1 (decide ((l1.length : Int) > 10)) l0_0 l0_1) else (quinarialaw02_ChannelLines.j0 k l1 true l0_0 l0_1))
def quinarialaw02_ChannelLines.T7 : Bool × List (List Nat × List Nat) := (true, [([], []), ([0], [0]), ([1], [1]), ([2], [2]), ([2], [2]), ([2], [2]), ([4, 5, 2, 2], [2, 4, 5]), ([3, 6, 2], [2, 3, 6]), ([2, 7], [2, 7]), ([8, 6], [8]), ([9], [9]), ([10, 9], [9, 10]), ([9, 11], [9, 11]), ([12, 9], [12]), ([13], [13]), ([13], [13]), ([13], [13]), ([15, 16, 13, 13], [13, 15, 16]), ([14, 17, 17, 13], [13, 14, 17]), ([13, 18], [13, 18]), ([19, 18], [19]), ([20, 20], [20]), ([20, 21], [20, 21]), ([22, 21, 0, 1, 2, 3, 4, 5, 6, 7, 8, 9, 10, 11, 12, 13, 14, 15, 16, 17, 18, 19, 20, 21, 22], [22])])
def quinarialaw02_ChannelLines.B7 : List Nat := [0, 1, 3, 7, 7, 7, 55, 127, 255, 511, 1023, 2047, 4095, 8191, 16383, 16383, 16383, 114687, 262143, 524287, 1048575, 2097151, 4194303, 8388607]
theorem quinarialaw02_ChannelLines.tab7 : rtab .any (opsOf Tryz.f4 7) = quinarialaw02_ChannelLines.T7 := by kernel_rfl
theorem quinarialaw02_ChannelLines.bits7 : waitsOk quinarialaw02_ChannelLines.T7.2 quinarialaw02_ChannelLines.B7 = true := by kernel_rfl
set_option maxHeartbeats 8000000 in
set_option maxRecDepth 100000 in
theorem quinarialaw02_ChannelLines.calls (k : Nat) (A0_0 : Option Addr) (c0_0 : Nat) (l0_0 : List Int) (A0_1 : Option Addr) (c0_1 : Nat) (l0_1 : List (S32)) (A1 : Option Addr) (c1 : Nat) (l1 : List Int) (r : Bool) (w : World) (hr0_0 : Kd.C (Kd.int .i64) w A0_0 l0_0.length l0_0) (hc0_0 : l0_0.length ≤ c0_0) (hr0_1 : Kd.C k32 w A0_1 l0_1.length l0_1) (hc0_1 : l0_1.length ≤ c0_1) (hr1 : Kd.C (Kd.int .i64) w A1 l1.length l1) (hc1 : l1.length ≤ c1) (hT : TabW w) (h : quinarialaw02_ChannelLines.f k l0_0 l0_1 l1 = some r) :
  Calls Tryz.prog 4 #[.agg #[.slice A0_0 l0_0.length c0_0, .slice A0_1 l0_1.length c0_1], .slice A1 l1.length c1] w fun e w' => e = .returned (.bool r) ∧ Below w.heap.size w w' := by
 have HT := Aside0.mk hT
 clear hT
 have hu25 := Tryz.underlying25
 have hu30 := Tryz.underlying30
 have HR0_0 := Aside0.mk hr0_0
 have HC0_0 := Aside0.mk hc0_0
 clear hr0_0 hc0_0
 have HR0_1 := Aside0.mk hr0_1
 have HC0_1 := Aside0.mk hc0_1
 clear hr0_1 hc0_1
 have HR1 := Aside0.mk hr1
 have HC1 := Aside0.mk hc1
 clear hr1 hc1
 have HB := Aside0.mk (Below.refl w.heap.size w)
 have H : ((quinarialaw02_short.f l0_0 l0_1).bind fun t648 => (if t648 = true then (quinarialaw02_ChannelLines.j0 k l1 (decide ((l1.length : Int) > 10)) l0_0 l0_1) else (quinarialaw02_ChannelLines.j0 k l1 true l0_0 l0_1))) = some r := h
 clear h
 have HC3 := Aside0.mk H
 clear H
 go_enter Tryz.func4, Tryz.ntmps4
 go_upto_region 1 with (first | ((with_reducible refine gate_dst (N := 2) rfl ?_); (try (refine gate_guard (by rfl) ?_; dsimp only)); refine bxe 2 #[.slice A0_0 l0_0.length c0_0, .slice A0_1 l0_1.length c0_1] 25 ?_; intro gb647 hg w4 hbox hb; have n0_ := Aside0.mk (below_step uB hb); have n1_ := Aside0.mk (hbox); have n2_ := gw hg; have n3_ := gw hg; clear HB; have HB := n0_; have BK647 := n1_; have GW647 := n2_; have GE647 := n3_; clear n0_ n1_ n2_ n3_; clear hb hbox hg))
 (try simp only [Act.put, List.setIfInBounds_toArray, List.set_cons_zero, List.set_cons_succ])
 go_cut [16] (fun v16 wc => ∃ (kq : Nat) (x16_2 : Bool), v16 = .bool x16_2 ∧ Aside0 (quinarialaw02_ChannelLines.j0 kq l1 x16_2 l0_0 l0_1 = some r) ∧ Aside0 (kq ≤ k) ∧ Aside0 (wc.heap[gb647]? = some (.cells #[(.slice A0_0 l0_0.length c0_0), (.slice A0_1 l0_1.length c0_1)] 25 (0, 0))) ∧ Aside0 (Below w.heap.size w wc))
 case first =>
  have H := HC3.out
  clear HC3
  replace H := Option.bind_eq_some_iff.mp H
  obtain ⟨t648, A50, H⟩ := H
  replace H : (if t648 = true then (quinarialaw02_ChannelLines.j0 k l1 (decide ((l1.length : Int) > 10)) l0_0 l0_1) else (quinarialaw02_ChannelLines.j0 k l1 true l0_0 l0_1)) = some r := H
  have A5 := Aside0.mk A50
  clear A50
  by_cases c6 : t648 = true
  ·subst c6
   have H1 : (quinarialaw02_ChannelLines.j0 k l1 (decide ((l1.length : Int) > 10)) l0_0 l0_1) = some r := by rw [if_pos rfl] at H; exact H
   clear H
   have H := H1
   clear H1
   have H' := Aside0.mk H
   clear H
   obtain ⟨hcz7_0, hcz7_1⟩ := cz2 BK647.out
   obtain ⟨hfz7_0, hfz7_1⟩ := fz2 BK647.out
   go_wp2_with (first | ((with_reducible refine gate_callee (f := 13) rfl ?_); refine goesL_ (some 10) rfl rfl Tryz.func13 (by kernel_rfl) rfl #[.agg #[.slice A0_0 l0_0.length c0_0, .slice A0_1 l0_1.length c0_1]] rfl uM ?_; (with_reducible refine (quinarialaw02_short.calls _ _ l0_0 _ _ l0_1 true _ ?side1 ?side2 ?side3 ?side4 A5.out).mono ?_); (case side1 => repeat (first | exact (Kd.C_below HR0_0.out HB.out) | (with_reducible refine Kd.C_alloc ?_ _) | (with_reducible refine Kd.C_drewN ?_ _) | (with_reducible refine Kd.C_drew ?_))); (case side2 => exact HC0_0.out); (case side3 => repeat (first | exact (Kd.C_below HR0_1.out HB.out) | (with_reducible refine Kd.C_alloc ?_ _) | (with_reducible refine Kd.C_drewN ?_ _) | (with_reducible refine Kd.C_drew ?_))); (case side4 => exact HC0_1.out); rintro e w8 ⟨rfl, hb⟩; refine ⟨_, rfl, ?_⟩; replace BK647 := Aside0.mk (blk_below (uK BK647.out) hb); replace HB := Aside0.mk (below_step uB hb); (try clear hb); (try clear hb2); (try clear hk); (try clear hi)))
   go_meet
   case rel => exact ⟨_, (decide ((l1.length : Int) > 10)), u0, H', ⟨u1⟩, ⟨uK BK647.out⟩, ⟨uB⟩⟩
  ·replace c6 := Bool.eq_false_iff.mpr c6
   subst c6
   have H1 : (quinarialaw02_ChannelLines.j0 k l1 true l0_0 l0_1) = some r := by rw [if_neg (show ¬ (false = true) by decide)] at H; exact H
   clear H
   have H := H1
   clear H1
   have H' := Aside0.mk H
   clear H
   obtain ⟨hcz9_0, hcz9_1⟩ := cz2 BK647.out
   obtain ⟨hfz9_0, hfz9_1⟩ := fz2 BK647.out
   go_wp2_with (first | ((with_reducible refine gate_callee (f := 13) rfl ?_); refine goesL_ (some 10) rfl rfl Tryz.func13 (by kernel_rfl) rfl #[.agg #[.slice A0_0 l0_0.length c0_0, .slice A0_1 l0_1.length c0_1]] rfl uM ?_; (with_reducible refine (quinarialaw02_short.calls _ _ l0_0 _ _ l0_1 false _ ?side1 ?side2 ?side3 ?side4 A5.out).mono ?_); (case side1 => repeat (first | exact (Kd.C_below HR0_0.out HB.out) | (with_reducible refine Kd.C_alloc ?_ _) | (with_reducible refine Kd.C_drewN ?_ _) | (with_reducible refine Kd.C_drew ?_))); (case side2 => exact HC0_0.out); (case side3 => repeat (first | exact (Kd.C_below HR0_1.out HB.out) | (with_reducible refine Kd.C_alloc ?_ _) | (with_reducible refine Kd.C_drewN ?_ _) | (with_reducible refine Kd.C_drew ?_))); (case side4 => exact HC0_1.out); rintro e w10 ⟨rfl, hb⟩; refine ⟨_, rfl, ?_⟩; replace BK647 := Aside0.mk (blk_below (uK BK647.out) hb); replace HB := Aside0.mk (below_step uB hb); (try clear hb); (try clear hb2); (try clear hk); (try clear hi)))
   go_meet
   case rel => exact ⟨_, (true), u0, H', ⟨u1⟩, ⟨uK BK647.out⟩, ⟨uB⟩⟩
 case rest =>
  clear HC3; try clear c1; try clear p2; try clear c4; try clear c6; try clear hcz7_0; try clear hcz7_1; try clear hcz9_0; try clear hcz9_1; try clear hfz7_0; try clear hfz7_1; try clear hfz9_0; try clear hfz9_1
  obtain ⟨kq, x16_2, rfl, HA, HJ2, BK647, HB⟩ := hcut
  cases kq with
  | zero => exact absurd HA.out (by simp [quinarialaw02_ChannelLines.j0])
  | succ kj2 =>
   have H := HA.out
   clear HA
   simp only [quinarialaw02_ChannelLines.j0] at H
   by_cases c11 : x16_2 = true
   ·subst c11
    have H1 : ((quinarialaw02_known.f kj2).bind fun t649 => (some t649)) = some r := by rw [if_pos rfl] at H; exact H
    clear H
    have H := H1
    clear H1
    replace H := Option.bind_eq_some_iff.mp H
    obtain ⟨t649, A120, H⟩ := H
    replace H : (some t649) = some r := H
    have A12 := Aside0.mk A120
    clear A120
    obtain rfl := Option.some.inj H
    go_wp2_with (first | ((with_reducible refine gate_callee (f := 17) rfl ?_); refine goesL_ (some 17) rfl rfl Tryz.func17 (by kernel_rfl) rfl #[] rfl uM ?_; (with_reducible refine (quinarialaw02_known.calls kj2  t649 _ ?sideT A12.out).mono ?_); (case sideT => exact HT.out.below uB); rintro e w13 ⟨rfl, hb⟩; refine ⟨_, rfl, ?_⟩; replace BK647 := Aside0.mk (blk_below (uK BK647.out) hb); replace HB := Aside0.mk (below_step uB hb); (try clear hb); (try clear hb2); (try clear hk); (try clear hi)))
    go_ret
    exact ⟨uE, uB⟩
   ·replace c11 := Bool.eq_false_iff.mpr c11
    subst c11
    have H1 : ((channel_Line.f kj2 l0_0 l0_1 l1).bind fun bt650 => ((channel_Narrowest.f kj2 l0_0 l0_1 l1).bind fun bt654 => ((quinariaref02_Right.f kj2 l0_0 l0_1).bind fun t658 => (if t658 = true then ((quinariaref02_Ages.f kj2 l0_0 l0_1 l1).bind fun t659 => (quinarialaw02_ChannelLines.j1 kj2 l1 bt650.2.2 bt654.1 bt654.2 (!t659) l0_0 l0_1 bt650.1 bt650.2.1)) else (quinarialaw02_ChannelLines.j1 kj2 l1 bt650.2.2 bt654.1 bt654.2 true l0_0 l0_1 bt650.1 bt650.2.1))))) = some r := by rw [if_neg (show ¬ (false = true) by decide)] at H; exact H
    clear H
    have H := H1
    clear H1
    replace H := Option.bind_eq_some_iff.mp H
    obtain ⟨⟨t650, t651, t652⟩, A140, H⟩ := H
    replace H : ((channel_Narrowest.f kj2 l0_0 l0_1 l1).bind fun bt654 => ((quinariaref02_Right.f kj2 l0_0 l0_1).bind fun t658 => (if t658 = true then ((quinariaref02_Ages.f kj2 l0_0 l0_1 l1).bind fun t659 => (quinarialaw02_ChannelLines.j1 kj2 l1 t652 bt654.1 bt654.2 (!t659) l0_0 l0_1 t650 t651)) else (quinarialaw02_ChannelLines.j1 kj2 l1 t652 bt654.1 bt654.2 true l0_0 l0_1 t650 t651)))) = some r := H
    have A14 := Aside0.mk A140
    clear A140
    replace H := Option.bind_eq_some_iff.mp H
    obtain ⟨⟨t654, t657⟩, A150, H⟩ := H
    replace H : ((quinariaref02_Right.f kj2 l0_0 l0_1).bind fun t658 => (if t658 = true then ((quinariaref02_Ages.f kj2 l0_0 l0_1 l1).bind fun t659 => (quinarialaw02_ChannelLines.j1 kj2 l1 t652 t654 t657 (!t659) l0_0 l0_1 t650 t651)) else (quinarialaw02_ChannelLines.j1 kj2 l1 t652 t654 t657 true l0_0 l0_1 t650 t651))) = some r := H
    have A15 := Aside0.mk A150
    clear A150
    have HC16 := Aside0.mk H
    clear H
    obtain ⟨hcz17_0, hcz17_1⟩ := cz2 BK647.out
    obtain ⟨hfz17_0, hfz17_1⟩ := fz2 BK647.out
    go_upto_region 5 with (first | ((with_reducible refine gate_callee (f := 20) rfl ?_); refine goesL_ (some 21) rfl rfl Tryz.func20 (by kernel_rfl) rfl #[.agg #[.slice A0_0 l0_0.length c0_0, .slice A0_1 l0_1.length c0_1], .slice A1 l1.length c1] rfl uM ?_; (with_reducible refine (channel_Line.calls kj2 _ _ l0_0 _ _ l0_1 _ _ l1 t650 t651 t652 _ ?side1 ?side2 ?side3 ?side4 ?side5 ?side6 A14.out).mono ?_); (case side1 => repeat (first | exact (Kd.C_below HR0_0.out HB.out) | (with_reducible refine Kd.C_alloc ?_ _) | (with_reducible refine Kd.C_drewN ?_ _) | (with_reducible refine Kd.C_drew ?_))); (case side2 => exact HC0_0.out); (case side3 => repeat (first | exact (Kd.C_below HR0_1.out HB.out) | (with_reducible refine Kd.C_alloc ?_ _) | (with_reducible refine Kd.C_drewN ?_ _) | (with_reducible refine Kd.C_drew ?_))); (case side4 => exact HC0_1.out); (case side5 => repeat (first | exact (Kd.C_below HR1.out HB.out) | (with_reducible refine Kd.C_alloc ?_ _) | (with_reducible refine Kd.C_drewN ?_ _) | (with_reducible refine Kd.C_drew ?_))); (case side6 => exact HC1.out); rintro e w18 ⟨rfl, hb⟩; refine ⟨_, rfl, ?_⟩; replace BK647 := Aside0.mk (blk_below (uK BK647.out) hb); replace HB := Aside0.mk (below_step uB hb); (try clear hb); (try clear hb2); (try clear hk); (try clear hi)) | ((with_reducible refine gate_dst (N := 5) rfl ?_); (try (refine gate_guard (by rfl) ?_; dsimp only)); refine bxe 5 #[.int .i64 0, .int .i64 0] 30 ?_; intro gb653 hg w19 hbox hb; have n0_ := Aside0.mk (blk_below (uK BK647.out) hb); have n1_ := Aside0.mk (below_step uB hb); have n2_ := Aside0.mk (hbox); have n3_ := gw hg; have n4_ := gw hg; have n5_ := nb BK647 hg; have n6_ := nc BK647 hg; clear BK647; clear HB; have BK647 := n0_; have HB := n1_; have BK653 := n2_; have GW653 := n3_; have GE653 := n4_; have NB647_653 := n5_; have NB653_647 := n6_; clear n0_ n1_ n2_ n3_ n4_ n5_ n6_; clear hb hbox hg; have hnb20 := NB653_647.out; have hnc20 := NB647_653.out; obtain ⟨hcz21_0, hcz21_1⟩ := cz2 BK653.out; obtain ⟨hfz21_0, hfz21_1⟩ := fz2 BK653.out; obtain ⟨hcz22_0, hcz22_1⟩ := cz2 BK647.out; obtain ⟨hfz22_0, hfz22_1⟩ := fz2 BK647.out) | ((with_reducible refine gate_callee (f := 21) rfl ?_); refine goesL_ (some 27) rfl rfl Tryz.func21 (by kernel_rfl) rfl #[.agg #[.slice A0_0 l0_0.length c0_0, .slice A0_1 l0_1.length c0_1], .slice A1 l1.length c1] rfl uM ?_; (with_reducible refine (channel_Narrowest.calls kj2 _ _ l0_0 _ _ l0_1 _ _ l1 t654 t657 _ ?side1 ?side2 ?side3 ?side4 ?side5 ?side6 A15.out).mono ?_); (case side1 => exact Kd.C_below HR0_0.out uB); (case side2 => exact HC0_0.out); (case side3 => exact Kd.C_below HR0_1.out uB); (case side4 => exact HC0_1.out); (case side5 => exact Kd.C_below HR1.out uB); (case side6 => exact HC1.out); rintro e w23 ⟨v655, rfl, ho0, hb⟩; refine ⟨_, rfl, ?_⟩; have HO656 := Aside0.mk (Kd.R_lower ho0 (below_size uB)); replace BK647 := Aside0.mk (blk_below (g := gb647) (o := .cells #[.slice A0_0 l0_0.length c0_0, .slice A0_1 l0_1.length c0_1] 25 (0, 0)) (by refine uK ?_; refine blk_far ?_ NB647_653.out _; refine uK ?_; refine blk_far ?_ NB647_653.out _; refine uK ?_; exact BK647.out) hb); replace BK653 := Aside0.mk (blk_below (g := gb653) (o := .cells #[.int .i64 t650, .int .i64 t651] 30 (0, 0)) (by refine uK ?_; refine blk_put (cs := #[.int .i64 t650, .int .i64 0]) ?_ 1 _ rfl; refine uK ?_; refine blk_put (cs := #[.int .i64 0, .int .i64 0]) ?_ 0 _ rfl; refine uK ?_; exact BK653.out) hb); replace HB := Aside0.mk (below_step uB hb); (try clear hb); (try clear hb2); (try clear hk); (try clear hi); (try clear ho0)))
    (try simp only [Act.put, List.setIfInBounds_toArray, List.set_cons_zero, List.set_cons_succ])
    go_cut [38] (fun v38 wc => ∃ (kq : Nat) (x38_15 : Bool), v38 = .bool x38_15 ∧ Aside0 (quinarialaw02_ChannelLines.j1 kq l1 t652 t654 t657 x38_15 l0_0 l0_1 t650 t651 = some r) ∧ Aside0 (kq ≤ kj2) ∧ Aside0 (Kd.R (Kd.int .i64) 3 wc w.heap.size (fun _ => True) v655 t654) ∧ Aside0 (wc.heap[gb647]? = some (.cells #[(.slice A0_0 l0_0.length c0_0), (.slice A0_1 l0_1.length c0_1)] 25 (0, 0))) ∧ Aside0 (wc.heap[gb653]? = some (.cells #[.int .i64 t650, .int .i64 t651] 30 (0, 0))) ∧ Aside0 (Below w.heap.size w wc))
    case first =>
     have H := HC16.out
     clear HC16
     replace H := Option.bind_eq_some_iff.mp H
     obtain ⟨t658, A240, H⟩ := H
     replace H : (if t658 = true then ((quinariaref02_Ages.f kj2 l0_0 l0_1 l1).bind fun t659 => (quinarialaw02_ChannelLines.j1 kj2 l1 t652 t654 t657 (!t659) l0_0 l0_1 t650 t651)) else (quinarialaw02_ChannelLines.j1 kj2 l1 t652 t654 t657 true l0_0 l0_1 t650 t651)) = some r := H
     have A24 := Aside0.mk A240
     clear A240
     by_cases c25 : t658 = true
     ·subst c25
      have H1 : ((quinariaref02_Ages.f kj2 l0_0 l0_1 l1).bind fun t659 => (quinarialaw02_ChannelLines.j1 kj2 l1 t652 t654 t657 (!t659) l0_0 l0_1 t650 t651)) = some r := by rw [if_pos rfl] at H; exact H
      clear H
      have H := H1
      clear H1
      replace H := Option.bind_eq_some_iff.mp H
      obtain ⟨t659, A260, H⟩ := H
      replace H : (quinarialaw02_ChannelLines.j1 kj2 l1 t652 t654 t657 (!t659) l0_0 l0_1 t650 t651) = some r := H
      have A26 := Aside0.mk A260
      clear A260
      have H' := Aside0.mk H
      clear H
      have hnb27 := NB647_653.out
      have hnc27 := NB653_647.out
      obtain ⟨hcz28_0, hcz28_1⟩ := cz2 BK647.out
      obtain ⟨hfz28_0, hfz28_1⟩ := fz2 BK647.out
      go_wp2_with (first | ((with_reducible refine gate_callee (f := 14) rfl ?_); refine goesL_ (some 31) rfl rfl Tryz.func14 (by kernel_rfl) rfl #[.agg #[.slice A0_0 l0_0.length c0_0, .slice A0_1 l0_1.length c0_1]] rfl uM ?_; (with_reducible refine (quinariaref02_Right.calls kj2 _ _ l0_0 _ _ l0_1 true _ ?side1 ?side2 ?side3 ?side4 A24.out).mono ?_); (case side1 => repeat (first | exact (Kd.C_below HR0_0.out HB.out) | (with_reducible refine Kd.C_alloc ?_ _) | (with_reducible refine Kd.C_drewN ?_ _) | (with_reducible refine Kd.C_drew ?_))); (case side2 => exact HC0_0.out); (case side3 => repeat (first | exact (Kd.C_below HR0_1.out HB.out) | (with_reducible refine Kd.C_alloc ?_ _) | (with_reducible refine Kd.C_drewN ?_ _) | (with_reducible refine Kd.C_drew ?_))); (case side4 => exact HC0_1.out); rintro e w29 ⟨rfl, hb⟩; refine ⟨_, rfl, ?_⟩; replace HO656 := Aside0.mk (Kd.R_below (uR HO656.out) hb); replace BK647 := Aside0.mk (blk_below (uK BK647.out) hb); replace BK653 := Aside0.mk (blk_below (uK BK653.out) hb); replace HB := Aside0.mk (below_step uB hb); (try clear hb); (try clear hb2); (try clear hk); (try clear hi); obtain ⟨hcz30_0, hcz30_1⟩ := cz2 BK647.out; obtain ⟨hfz30_0, hfz30_1⟩ := fz2 BK647.out) | (go_at_call 22; (with_reducible refine (quinariaref02_Ages.calls kj2 _ _ l0_0 _ _ l0_1 _ _ l1 t659 _ ?side1 ?side2 ?side3 ?side4 ?side5 ?side6 A26.out).mono ?_); (case side1 => repeat (first | exact (Kd.C_below HR0_0.out HB.out) | (with_reducible refine Kd.C_alloc ?_ _) | (with_reducible refine Kd.C_drewN ?_ _) | (with_reducible refine Kd.C_drew ?_))); (case side2 => exact HC0_0.out); (case side3 => repeat (first | exact (Kd.C_below HR0_1.out HB.out) | (with_reducible refine Kd.C_alloc ?_ _) | (with_reducible refine Kd.C_drewN ?_ _) | (with_reducible refine Kd.C_drew ?_))); (case side4 => exact HC0_1.out); (case side5 => repeat (first | exact (Kd.C_below HR1.out HB.out) | (with_reducible refine Kd.C_alloc ?_ _) | (with_reducible refine Kd.C_drewN ?_ _) | (with_reducible refine Kd.C_drew ?_))); (case side6 => exact HC1.out); rintro e w31 ⟨rfl, hb⟩; replace HO656 := Aside0.mk (Kd.R_below (uR HO656.out) hb); replace BK647 := Aside0.mk (blk_below (uK BK647.out) hb); replace BK653 := Aside0.mk (blk_below (uK BK653.out) hb); replace HB := Aside0.mk (below_step uB hb); (try clear hb); (try clear hb2); (try clear hk); (try clear hi)))
      go_meet
      case rel => exact ⟨_, (!t659), u0, H', ⟨by have := HJ2.out; first | omega | exact Nat.le_refl _⟩, ⟨uR HO656.out⟩, ⟨uK BK647.out⟩, ⟨uK BK653.out⟩, ⟨uB⟩⟩
     ·replace c25 := Bool.eq_false_iff.mpr c25
      subst c25
      have H1 : (quinarialaw02_ChannelLines.j1 kj2 l1 t652 t654 t657 true l0_0 l0_1 t650 t651) = some r := by rw [if_neg (show ¬ (false = true) by decide)] at H; exact H
      clear H
      have H := H1
      clear H1
      have H' := Aside0.mk H
      clear H
      have hnb32 := NB647_653.out
      have hnc32 := NB653_647.out
      obtain ⟨hcz33_0, hcz33_1⟩ := cz2 BK647.out
      obtain ⟨hfz33_0, hfz33_1⟩ := fz2 BK647.out
      go_wp2_with (first | ((with_reducible refine gate_callee (f := 14) rfl ?_); refine goesL_ (some 31) rfl rfl Tryz.func14 (by kernel_rfl) rfl #[.agg #[.slice A0_0 l0_0.length c0_0, .slice A0_1 l0_1.length c0_1]] rfl uM ?_; (with_reducible refine (quinariaref02_Right.calls kj2 _ _ l0_0 _ _ l0_1 false _ ?side1 ?side2 ?side3 ?side4 A24.out).mono ?_); (case side1 => repeat (first | exact (Kd.C_below HR0_0.out HB.out) | (with_reducible refine Kd.C_alloc ?_ _) | (with_reducible refine Kd.C_drewN ?_ _) | (with_reducible refine Kd.C_drew ?_))); (case side2 => exact HC0_0.out); (case side3 => repeat (first | exact (Kd.C_below HR0_1.out HB.out) | (with_reducible refine Kd.C_alloc ?_ _) | (with_reducible refine Kd.C_drewN ?_ _) | (with_reducible refine Kd.C_drew ?_))); (case side4 => exact HC0_1.out); rintro e w34 ⟨rfl, hb⟩; refine ⟨_, rfl, ?_⟩; replace HO656 := Aside0.mk (Kd.R_below (uR HO656.out) hb); replace BK647 := Aside0.mk (blk_below (uK BK647.out) hb); replace BK653 := Aside0.mk (blk_below (uK BK653.out) hb); replace HB := Aside0.mk (below_step uB hb); (try clear hb); (try clear hb2); (try clear hk); (try clear hi)))
      go_meet
      case rel => exact ⟨_, (true), u0, H', ⟨by have := HJ2.out; first | omega | exact Nat.le_refl _⟩, ⟨uR HO656.out⟩, ⟨uK BK647.out⟩, ⟨uK BK653.out⟩, ⟨uB⟩⟩
    case rest =>
     clear HC16; try clear c1; try clear c2; try clear p2; try clear c3; try clear c4; try clear c6; try clear c11; try clear c13; try clear c14; try clear c17; try clear c20; try clear c21; try clear c25; try clear c27; try clear c32; try clear hcz17_0; try clear hcz17_1; try clear hcz21_0; try clear hcz21_1; try clear hcz22_0; try clear hcz22_1; try clear hcz28_0; try clear hcz28_1; try clear hcz30_0; try clear hcz30_1; try clear hcz33_0; try clear hcz33_1; try clear hcz7_0; try clear hcz7_1; try clear hcz9_0; try clear hcz9_1; try clear hfz17_0; try clear hfz17_1; try clear hfz21_0; try clear hfz21_1; try clear hfz22_0; try clear hfz22_1; try clear hfz28_0; try clear hfz28_1; try clear hfz30_0; try clear hfz30_1; try clear hfz33_0; try clear hfz33_1; try clear hfz7_0; try clear hfz7_1; try clear hfz9_0; try clear hfz9_1; try clear p2
     obtain ⟨kq, x38_15, rfl, HA, HJ15, HO_7, BK647, BK653, HB⟩ := hcut
     cases kq with
     | zero => exact absurd HA.out (by simp [quinarialaw02_ChannelLines.j1])
     | succ kj15 =>
      have H := HA.out
      clear HA
      simp only [quinarialaw02_ChannelLines.j1] at H
      by_cases c35 : x38_15 = true
      ·subst c35
       have H1 : (if t652 = 2 then (if (t650 == 0 && (t651 == 0)) = true then (if t657 = 2 then (if (t654.length : Int) = 0 then ((quinarialaw02_known.f kj15).bind fun t660 => (some t660)) else (some false)) else (some false)) else (some false)) else (some false)) = some r := by rw [if_pos rfl] at H; exact H
       clear H
       have H := H1
       clear H1
       by_cases c36 : t652 = 2
       ·rw [if_pos c36] at H
        have c36b0 : (t652 == 2) = true := beq_iff_eq.mpr c36
        have c36b1 : (t652 != 2) = false := bne_eq_false_iff_eq.mpr c36
        clear c36
        by_cases c37 : (t650 == 0 && (t651 == 0)) = true
        ·rw [if_pos c37] at H
         have c37b0 : (t650 == 0 && (t651 == 0)) = true := c37
         (try (have c37b1 : decide (t650 = 0 && (t651 == 0)) = true := by simpa using c37))
         (try (have c37b2 : (t650 == 0 && (t651 == 0)) = true := by simpa using c37))
         clear c37
         by_cases c38 : t657 = 2
         ·rw [if_pos c38] at H
          have c38b0 : (t657 == 2) = true := beq_iff_eq.mpr c38
          have c38b1 : (t657 != 2) = false := bne_eq_false_iff_eq.mpr c38
          clear c38
          by_cases c39 : (t654.length : Int) = 0
          ·rw [if_pos c39] at H
           have c39b0 : ((t654.length : Int) == 0) = true := beq_iff_eq.mpr c39
           have c39b1 : ((t654.length : Int) != 0) = false := bne_eq_false_iff_eq.mpr c39
           clear c39
           replace H := Option.bind_eq_some_iff.mp H
           obtain ⟨t660, A400, H⟩ := H
           replace H : (some t660) = some r := H
           have A40 := Aside0.mk A400
           clear A400
           obtain rfl := Option.some.inj H
           have hnb41 := NB653_647.out
           have hnc41 := NB647_653.out
           obtain ⟨hcz42_0, hcz42_1⟩ := cz2 BK653.out
           obtain ⟨hfz42_0, hfz42_1⟩ := fz2 BK653.out
           obtain ⟨Ao43, co43, eo43⟩ := Kd.R_slice HO_7.out
           subst eo43
           go_wp2_with (first | (go_at_call 17; (with_reducible refine (quinarialaw02_known.calls kj15  t660 _ ?sideT A40.out).mono ?_); (case sideT => exact HT.out.below uB); rintro e w44 ⟨rfl, hb⟩; replace HO_7 := Aside0.mk (Kd.R_below (uR HO_7.out) hb); replace BK647 := Aside0.mk (blk_below (uK BK647.out) hb); replace BK653 := Aside0.mk (blk_below (uK BK653.out) hb); replace HB := Aside0.mk (below_step uB hb); (try clear hb); (try clear hb2); (try clear hk); (try clear hi)))
           go_ret
           exact ⟨uE, uB⟩
          ·rw [if_neg c39] at H
           have c39b0 : ((t654.length : Int) == 0) = false := beq_eq_false_iff_ne.mpr c39
           have c39b1 : ((t654.length : Int) != 0) = true := bne_iff_ne.mpr c39
           have c39b2 : ¬ (t654 = []) := fun h_ => c39 (by rw [h_]; rfl)
           obtain rfl := Option.some.inj H
           have hnb45 := NB653_647.out
           have hnc45 := NB647_653.out
           obtain ⟨hcz46_0, hcz46_1⟩ := cz2 BK653.out
           obtain ⟨hfz46_0, hfz46_1⟩ := fz2 BK653.out
           obtain ⟨Ao47, co47, eo47⟩ := Kd.R_slice HO_7.out
           subst eo47
           go_wp2
           go_ret
           exact ⟨uE, uB⟩
         ·rw [if_neg c38] at H
          have c38b0 : (t657 == 2) = false := beq_eq_false_iff_ne.mpr c38
          have c38b1 : (t657 != 2) = true := bne_iff_ne.mpr c38
          obtain rfl := Option.some.inj H
          have hnb48 := NB653_647.out
          have hnc48 := NB647_653.out
          obtain ⟨hcz49_0, hcz49_1⟩ := cz2 BK653.out
          obtain ⟨hfz49_0, hfz49_1⟩ := fz2 BK653.out
          go_wp2
          go_ret
          exact ⟨uE, uB⟩
        ·rw [if_neg c37] at H
         have c37b0 : (t650 == 0 && (t651 == 0)) = false := by simpa using c37
         (try (have c37b1 : decide (t650 = 0 && (t651 == 0)) = false := by simpa using c37))
         (try (have c37b2 : (t650 == 0 && (t651 == 0)) = false := by simpa using c37))
         (try (have c37b3 : ¬ (t650 = 0 && (t651 == 0)) := by simpa using c37))
         clear c37
         obtain rfl := Option.some.inj H
         have hnb50 := NB653_647.out
         have hnc50 := NB647_653.out
         obtain ⟨hcz51_0, hcz51_1⟩ := cz2 BK653.out
         obtain ⟨hfz51_0, hfz51_1⟩ := fz2 BK653.out
         go_wp2
         go_ret
         exact ⟨uE, uB⟩
       ·rw [if_neg c36] at H
        have c36b0 : (t652 == 2) = false := beq_eq_false_iff_ne.mpr c36
        have c36b1 : (t652 != 2) = true := bne_iff_ne.mpr c36
        obtain rfl := Option.some.inj H
        go_wp2
        go_ret
        exact ⟨uE, uB⟩
      ·replace c35 := Bool.eq_false_iff.mpr c35
       subst c35
       have H1 : (if t652 = 0 then ((quinariaref02_Line.f kj15 l0_0 l0_1 l1).bind fun bt661 => (if (t650 == bt661.1 && (t651 == bt661.2)) = true then (if t657 = 0 then ((quinariaref02_Narrowest.f kj15 l0_0 l0_1 l1).bind fun t663 => ((quinariaref02_Same.f kj15 t654 t663).bind fun t666 => (if t666 = true then ((quinarialaw02_known.f kj15).bind fun t667 => (some t667)) else (some false)))) else (some false)) else (some false))) else (some false)) = some r := by rw [if_neg (show ¬ (false = true) by decide)] at H; exact H
       clear H
       have H := H1
       clear H1
       by_cases c52 : t652 = 0
       ·rw [if_pos c52] at H
        have c52b0 : (t652 == 0) = true := beq_iff_eq.mpr c52
        have c52b1 : (t652 != 0) = false := bne_eq_false_iff_eq.mpr c52
        clear c52
        replace H := Option.bind_eq_some_iff.mp H
        obtain ⟨⟨t661, t662⟩, A530, H⟩ := H
        replace H : (if (t650 == t661 && (t651 == t662)) = true then (if t657 = 0 then ((quinariaref02_Narrowest.f kj15 l0_0 l0_1 l1).bind fun t663 => ((quinariaref02_Same.f kj15 t654 t663).bind fun t666 => (if t666 = true then ((quinarialaw02_known.f kj15).bind fun t667 => (some t667)) else (some false)))) else (some false)) else (some false)) = some r := H
        have A53 := Aside0.mk A530
        clear A530
        by_cases c54 : (t650 == t661 && (t651 == t662)) = true
        ·rw [if_pos c54] at H
         have c54b0 : (t650 == t661 && (t651 == t662)) = true := c54
         (try (have c54b1 : decide (t650 = t661 && (t651 == t662)) = true := by simpa using c54))
         (try (have c54b2 : (t650 == t661 && (t651 == t662)) = true := by simpa using c54))
         clear c54
         by_cases c55 : t657 = 0
         ·rw [if_pos c55] at H
          have c55b0 : (t657 == 0) = true := beq_iff_eq.mpr c55
          have c55b1 : (t657 != 0) = false := bne_eq_false_iff_eq.mpr c55
          clear c55
          replace H := Option.bind_eq_some_iff.mp H
          obtain ⟨t663, A560, H⟩ := H
          replace H : ((quinariaref02_Same.f kj15 t654 t663).bind fun t666 => (if t666 = true then ((quinarialaw02_known.f kj15).bind fun t667 => (some t667)) else (some false))) = some r := H
          have A56 := Aside0.mk A560
          clear A560
          replace H := Option.bind_eq_some_iff.mp H
          obtain ⟨t666, A570, H⟩ := H
          replace H : (if t666 = true then ((quinarialaw02_known.f kj15).bind fun t667 => (some t667)) else (some false)) = some r := H
          have A57 := Aside0.mk A570
          clear A570
          by_cases c58 : t666 = true
          ·subst c58
           have H1 : ((quinarialaw02_known.f kj15).bind fun t667 => (some t667)) = some r := by rw [if_pos rfl] at H; exact H
           clear H
           have H := H1
           clear H1
           replace H := Option.bind_eq_some_iff.mp H
           obtain ⟨t667, A590, H⟩ := H
           replace H : (some t667) = some r := H
           have A59 := Aside0.mk A590
           clear A590
           obtain rfl := Option.some.inj H
           try go_wp2
           replace HO_7 := Aside0.mk (Kd.R_drew HO_7.out)
           replace BK647 := Aside0.mk (blk_drew BK647.out)
           replace BK653 := Aside0.mk (blk_drew BK653.out)
           replace HB := Aside0.mk (below_drew1 HB.out)
           refine start_ (n := 24) (S := fun w' => w'.cell? ⟨gb653, 0, none⟩ = some (.int .i64 t650) ∧ w'.cell? ⟨gb653, 1, none⟩ = some (.int .i64 t651) ∧ w'.cell? ⟨gb647, 0, none⟩ = some (.slice A0_0 l0_0.length c0_0) ∧ w'.cell? ⟨gb647, 1, none⟩ = some (.slice A0_1 l0_1.length c0_1)) (ds := []) (bl 24 0) (by kernel_rfl) rfl rfl ⟨(blk_cell BK653.out 0).trans rfl, (blk_cell BK653.out 1).trans rfl, (blk_cell BK647.out 0).trans rfl, (blk_cell BK647.out 1).trans rfl⟩ (fun hHeld => ?_); refine with_tabW quinarialaw02_ChannelLines.tab7 quinarialaw02_ChannelLines.bits7 (fun HT_ HW_ => ?_)
           generalize wc.drew = w60 at HO_7 BK647 BK653 HB hHeld ⊢
           refine pu 0 58 24 1 ?_
           refine pu 1 59 24 3 ?_
           refine pu 2 60 24 7 ?_
           refine pu 5 63 24 39 ?_
           refine tk4 3 61 24 47 hHeld ?_
           refine tk4 4 62 24 63 hHeld ?_
           refine one_ (i := 6) (N := some 64) (bl 24 127) rfl rfl (one_of HT_.out (by kernel_rfl)) (by decide) (fun K hK => ?_)
           refine goes_ Tryz.func23 (by kernel_rfl) rfl #[.agg #[.slice A0_0 l0_0.length c0_0, .slice A0_1 l0_1.length c0_1], .slice A1 l1.length c1] (by rfl) rfl rfl uM ?_
           with_reducible refine (quinariaref02_Line.calls kj15 _ _ l0_0 _ _ l0_1 _ _ l1 t661 t662 _ ?side1 ?side2 ?side3 ?side4 ?side5 ?side6 A53.out).mono ?_
           (case side1 => repeat (first | exact (Kd.C_below HR0_0.out HB.out) | (with_reducible refine Kd.C_alloc ?_ _) | (with_reducible refine Kd.C_drewN ?_ _) | (with_reducible refine Kd.C_drew ?_)))
           (case side2 => exact HC0_0.out)
           (case side3 => repeat (first | exact (Kd.C_below HR0_1.out HB.out) | (with_reducible refine Kd.C_alloc ?_ _) | (with_reducible refine Kd.C_drewN ?_ _) | (with_reducible refine Kd.C_drew ?_)))
           (case side4 => exact HC0_1.out)
           (case side5 => repeat (first | exact (Kd.C_below HR1.out HB.out) | (with_reducible refine Kd.C_alloc ?_ _) | (with_reducible refine Kd.C_drewN ?_ _) | (with_reducible refine Kd.C_drew ?_)))
           (case side6 => exact HC1.out)
           rintro e w61 ⟨rfl, hb⟩
           refine ⟨_, rfl, ?_⟩
           replace HO_7 := Aside0.mk (Kd.R_below (uR HO_7.out) hb)
           replace BK647 := Aside0.mk (blk_below (uK BK647.out) hb)
           replace BK653 := Aside0.mk (blk_below (uK BK653.out) hb)
           replace HB := Aside0.mk (below_step uB hb)
           (try clear hb)
           (try clear hb2)
           (try clear hk)
           (try clear hi)
           refine hK.out _ _ ⟨(blk_cell BK653.out 0).trans rfl, (blk_cell BK653.out 1).trans rfl, (blk_cell BK647.out 0).trans rfl, (blk_cell BK647.out 1).trans rfl⟩ (fun hHeld => ?_)
           clear hK K
           refine nm ?_
           refine pu 7 65 24 255 ?_
           refine pu 8 66 24 511 ?_
           refine pu 9 67 24 1023 ?_
           refine pu 10 68 24 2047 ?_
           refine pu 11 69 24 4095 ?_
           refine pu 12 70 24 8191 ?_
           refine pu 13 71 24 16383 ?_
           refine pu 14 72 24 32767 ?_
           refine pu 16 74 24 98303 ?_
           refine tk4 15 73 24 131071 hHeld ?_
           refine one_ (i := 17) (N := some 75) (bl 24 262143) rfl rfl (one_of HT_.out (by kernel_rfl)) (by decide) (fun K hK => ?_)
           refine goes_ Tryz.func25 (by kernel_rfl) rfl #[.agg #[.slice A0_0 l0_0.length c0_0, .slice A0_1 l0_1.length c0_1], .slice A1 l1.length c1] (by rfl) rfl rfl uM ?_
           with_reducible refine (quinariaref02_Narrowest.calls kj15 _ _ l0_0 _ _ l0_1 _ _ l1 t663 _ ?side1 ?side2 ?side3 ?side4 ?side5 ?side6 A56.out).mono ?_
           (case side1 => repeat (first | exact (Kd.C_below HR0_0.out HB.out) | (with_reducible refine Kd.C_alloc ?_ _) | (with_reducible refine Kd.C_drewN ?_ _) | (with_reducible refine Kd.C_drew ?_)))
           (case side2 => exact HC0_0.out)
           (case side3 => repeat (first | exact (Kd.C_below HR0_1.out HB.out) | (with_reducible refine Kd.C_alloc ?_ _) | (with_reducible refine Kd.C_drewN ?_ _) | (with_reducible refine Kd.C_drew ?_)))
           (case side4 => exact HC0_1.out)
           (case side5 => repeat (first | exact (Kd.C_below HR1.out HB.out) | (with_reducible refine Kd.C_alloc ?_ _) | (with_reducible refine Kd.C_drewN ?_ _) | (with_reducible refine Kd.C_drew ?_)))
           (case side6 => exact HC1.out)
           rintro e w62 ⟨v664, rfl, ho0, hb⟩
           refine ⟨_, rfl, ?_⟩
           have n0_ := Aside0.mk (Kd.R_elder' (uR HO_7.out) (Kd.R_base ho0) hb)
           have n1_ := Aside0.mk (Kd.R_lower (Kd.R_new' ho0 (Kd.R_lt (uR HO_7.out))) (below_size uB))
           have n2_ := Aside0.mk (blk_below (uK BK647.out) hb)
           have n3_ := Aside0.mk (blk_below (uK BK653.out) hb)
           have n4_ := Aside0.mk (below_step uB hb)
           clear HO_7 BK647 BK653 HB
           have HO_7 := n0_
           have HO665 := n1_
           have BK647 := n2_
           have BK653 := n3_
           have HB := n4_
           clear n0_ n1_ n2_ n3_ n4_
           (try clear hb)
           (try clear hb2)
           (try clear hk)
           (try clear hi)
           (try clear ho0)
           obtain ⟨Ao63, co63, eo63⟩ := Kd.R_slice HO_7.out
           (first | subst eo63 | (injection eo63 with f1_ f2_ f3_; have f4_ := f1_.symm; have f5_ := f3_.symm; clear f1_ f2_ f3_; subst f4_; subst f5_))
           obtain ⟨Ao64, co64, eo64⟩ := Kd.R_slice HO665.out
           (first | subst eo64 | (injection eo64 with f1_ f2_ f3_; have f4_ := f1_.symm; have f5_ := f3_.symm; clear f1_ f2_ f3_; subst f4_; subst f5_))
           refine hK.out _ _ ⟨(blk_cell BK653.out 0).trans rfl, (blk_cell BK653.out 1).trans rfl, (blk_cell BK647.out 0).trans rfl, (blk_cell BK647.out 1).trans rfl⟩ (fun hHeld => ?_)
           clear hK K
           refine nm ?_
           refine one_ (i := 18) (N := some 76) (bl 24 524287) rfl rfl (one_of HT_.out (by kernel_rfl)) (by decide) (fun K hK => ?_)
           refine goes_ Tryz.func24 (by kernel_rfl) rfl #[.slice Ao63 t654.length co63, .slice Ao64 t663.length co64] (by rfl) rfl rfl uM ?_
           with_reducible refine (quinariaref02_Same.calls kj15 _ _ t654 _ _ t663 true _ ?side1 ?side2 ?side3 ?side4 A57.out).mono ?_
           (case side1 => repeat (first | exact (Kd.R_reads' HO_7.out).2.2 | (with_reducible refine Kd.C_alloc ?_ _) | (with_reducible refine Kd.C_drewN ?_ _) | (with_reducible refine Kd.C_drew ?_)))
           (case side2 => exact (Kd.R_reads' HO_7.out).2.1)
           (case side3 => repeat (first | exact (Kd.R_reads' HO665.out).2.2 | (with_reducible refine Kd.C_alloc ?_ _) | (with_reducible refine Kd.C_drewN ?_ _) | (with_reducible refine Kd.C_drew ?_)))
           (case side4 => exact (Kd.R_reads' HO665.out).2.1)
           rintro e w' ⟨rfl, ⟨nd, rfl⟩⟩
           refine ⟨_, rfl, ?_⟩
           refine hK.out _ _ ⟨(blk_cell BK653.out 0).trans rfl, (blk_cell BK653.out 1).trans rfl, (blk_cell BK647.out 0).trans rfl, (blk_cell BK647.out 1).trans rfl⟩ (fun hHeld => ?_)
           clear hK K
           refine nm ?_
           refine pu 19 77 24 1048575 ?_
           refine pu 20 78 24 2097151 ?_
           refine one_ (i := 21) (N := some 79) (bl 24 4194303) rfl rfl (one_of HT_.out (by kernel_rfl)) (by decide) (fun K hK => ?_)
           refine goes_ Tryz.func17 (by kernel_rfl) rfl #[] (by rfl) rfl rfl uM ?_
           with_reducible refine (quinarialaw02_known.calls kj15  t667 _ ?sideT A59.out).mono ?_; (case sideT => exact HT.out.below uB)
           rintro e w65 ⟨rfl, hb⟩
           refine ⟨_, rfl, ?_⟩
           replace HO_7 := Aside0.mk (Kd.R_below (uR HO_7.out) hb)
           replace HO665 := Aside0.mk (Kd.R_below (uR HO665.out) hb)
           replace BK647 := Aside0.mk (blk_below (uK BK647.out) hb)
           replace BK653 := Aside0.mk (blk_below (uK BK653.out) hb)
           replace HB := Aside0.mk (below_step uB hb)
           (try clear hb)
           (try clear hb2)
           (try clear hk)
           (try clear hi)
           refine hK.out _ _ ⟨(blk_cell BK653.out 0).trans rfl, (blk_cell BK653.out 1).trans rfl, (blk_cell BK647.out 0).trans rfl, (blk_cell BK647.out 1).trans rfl⟩ (fun hHeld => ?_)
           clear hK K
           refine nm ?_
           refine pu 22 80 24 8388607 ?_
           refine pu 23 4 24 16777215 ?_
           refine done_ (done_of HT_.out (by kernel_rfl)) ?_
           try go_wp2
           go_ret
           exact ⟨uE, uB⟩
          ·replace c58 := Bool.eq_false_iff.mpr c58
           subst c58
           have H1 : (some false) = some r := by rw [if_neg (show ¬ (false = true) by decide)] at H; exact H
           clear H
           have H := H1
           clear H1
           obtain rfl := Option.some.inj H
           try go_wp2
           replace HO_7 := Aside0.mk (Kd.R_drew HO_7.out)
           replace BK647 := Aside0.mk (blk_drew BK647.out)
           replace BK653 := Aside0.mk (blk_drew BK653.out)
           replace HB := Aside0.mk (below_drew1 HB.out)
           refine start_ (n := 24) (S := fun w' => w'.cell? ⟨gb653, 0, none⟩ = some (.int .i64 t650) ∧ w'.cell? ⟨gb653, 1, none⟩ = some (.int .i64 t651) ∧ w'.cell? ⟨gb647, 0, none⟩ = some (.slice A0_0 l0_0.length c0_0) ∧ w'.cell? ⟨gb647, 1, none⟩ = some (.slice A0_1 l0_1.length c0_1)) (ds := []) (bl 24 0) (by kernel_rfl) rfl rfl ⟨(blk_cell BK653.out 0).trans rfl, (blk_cell BK653.out 1).trans rfl, (blk_cell BK647.out 0).trans rfl, (blk_cell BK647.out 1).trans rfl⟩ (fun hHeld => ?_); refine with_tabW quinarialaw02_ChannelLines.tab7 quinarialaw02_ChannelLines.bits7 (fun HT_ HW_ => ?_)
           generalize wc.drew = w66 at HO_7 BK647 BK653 HB hHeld ⊢
           refine pu 0 58 24 1 ?_
           refine pu 1 59 24 3 ?_
           refine pu 2 60 24 7 ?_
           refine pu 5 63 24 39 ?_
           refine tk4 3 61 24 47 hHeld ?_
           refine tk4 4 62 24 63 hHeld ?_
           refine one_ (i := 6) (N := some 64) (bl 24 127) rfl rfl (one_of HT_.out (by kernel_rfl)) (by decide) (fun K hK => ?_)
           refine goes_ Tryz.func23 (by kernel_rfl) rfl #[.agg #[.slice A0_0 l0_0.length c0_0, .slice A0_1 l0_1.length c0_1], .slice A1 l1.length c1] (by rfl) rfl rfl uM ?_
           with_reducible refine (quinariaref02_Line.calls kj15 _ _ l0_0 _ _ l0_1 _ _ l1 t661 t662 _ ?side1 ?side2 ?side3 ?side4 ?side5 ?side6 A53.out).mono ?_
           (case side1 => repeat (first | exact (Kd.C_below HR0_0.out HB.out) | (with_reducible refine Kd.C_alloc ?_ _) | (with_reducible refine Kd.C_drewN ?_ _) | (with_reducible refine Kd.C_drew ?_)))
           (case side2 => exact HC0_0.out)
           (case side3 => repeat (first | exact (Kd.C_below HR0_1.out HB.out) | (with_reducible refine Kd.C_alloc ?_ _) | (with_reducible refine Kd.C_drewN ?_ _) | (with_reducible refine Kd.C_drew ?_)))
           (case side4 => exact HC0_1.out)
           (case side5 => repeat (first | exact (Kd.C_below HR1.out HB.out) | (with_reducible refine Kd.C_alloc ?_ _) | (with_reducible refine Kd.C_drewN ?_ _) | (with_reducible refine Kd.C_drew ?_)))
           (case side6 => exact HC1.out)
           rintro e w67 ⟨rfl, hb⟩
           refine ⟨_, rfl, ?_⟩
           replace HO_7 := Aside0.mk (Kd.R_below (uR HO_7.out) hb)
           replace BK647 := Aside0.mk (blk_below (uK BK647.out) hb)
           replace BK653 := Aside0.mk (blk_below (uK BK653.out) hb)
           replace HB := Aside0.mk (below_step uB hb)
           (try clear hb)
           (try clear hb2)
           (try clear hk)
           (try clear hi)
           refine hK.out _ _ ⟨(blk_cell BK653.out 0).trans rfl, (blk_cell BK653.out 1).trans rfl, (blk_cell BK647.out 0).trans rfl, (blk_cell BK647.out 1).trans rfl⟩ (fun hHeld => ?_)
           clear hK K
           refine nm ?_
           refine pu 7 65 24 255 ?_
           refine pu 8 66 24 511 ?_
           refine pu 9 67 24 1023 ?_
           refine pu 10 68 24 2047 ?_
           refine pu 11 69 24 4095 ?_
           refine pu 12 70 24 8191 ?_
           refine pu 13 71 24 16383 ?_
           refine pu 14 72 24 32767 ?_
           refine pu 16 74 24 98303 ?_
           refine tk4 15 73 24 131071 hHeld ?_
           refine one_ (i := 17) (N := some 75) (bl 24 262143) rfl rfl (one_of HT_.out (by kernel_rfl)) (by decide) (fun K hK => ?_)
           refine goes_ Tryz.func25 (by kernel_rfl) rfl #[.agg #[.slice A0_0 l0_0.length c0_0, .slice A0_1 l0_1.length c0_1], .slice A1 l1.length c1] (by rfl) rfl rfl uM ?_
           with_reducible refine (quinariaref02_Narrowest.calls kj15 _ _ l0_0 _ _ l0_1 _ _ l1 t663 _ ?side1 ?side2 ?side3 ?side4 ?side5 ?side6 A56.out).mono ?_
           (case side1 => repeat (first | exact (Kd.C_below HR0_0.out HB.out) | (with_reducible refine Kd.C_alloc ?_ _) | (with_reducible refine Kd.C_drewN ?_ _) | (with_reducible refine Kd.C_drew ?_)))
           (case side2 => exact HC0_0.out)
           (case side3 => repeat (first | exact (Kd.C_below HR0_1.out HB.out) | (with_reducible refine Kd.C_alloc ?_ _) | (with_reducible refine Kd.C_drewN ?_ _) | (with_reducible refine Kd.C_drew ?_)))
           (case side4 => exact HC0_1.out)
           (case side5 => repeat (first | exact (Kd.C_below HR1.out HB.out) | (with_reducible refine Kd.C_alloc ?_ _) | (with_reducible refine Kd.C_drewN ?_ _) | (with_reducible refine Kd.C_drew ?_)))
           (case side6 => exact HC1.out)
           rintro e w68 ⟨v664, rfl, ho0, hb⟩
           refine ⟨_, rfl, ?_⟩
           have n0_ := Aside0.mk (Kd.R_elder' (uR HO_7.out) (Kd.R_base ho0) hb)
           have n1_ := Aside0.mk (Kd.R_lower (Kd.R_new' ho0 (Kd.R_lt (uR HO_7.out))) (below_size uB))
           have n2_ := Aside0.mk (blk_below (uK BK647.out) hb)
           have n3_ := Aside0.mk (blk_below (uK BK653.out) hb)
           have n4_ := Aside0.mk (below_step uB hb)
           clear HO_7 BK647 BK653 HB
           have HO_7 := n0_
           have HO665 := n1_
           have BK647 := n2_
           have BK653 := n3_
           have HB := n4_
           clear n0_ n1_ n2_ n3_ n4_
           (try clear hb)
           (try clear hb2)
           (try clear hk)
           (try clear hi)
           (try clear ho0)
           obtain ⟨Ao69, co69, eo69⟩ := Kd.R_slice HO_7.out
           (first | subst eo69 | (injection eo69 with f1_ f2_ f3_; have f4_ := f1_.symm; have f5_ := f3_.symm; clear f1_ f2_ f3_; subst f4_; subst f5_))
           obtain ⟨Ao70, co70, eo70⟩ := Kd.R_slice HO665.out
           (first | subst eo70 | (injection eo70 with f1_ f2_ f3_; have f4_ := f1_.symm; have f5_ := f3_.symm; clear f1_ f2_ f3_; subst f4_; subst f5_))
           refine hK.out _ _ ⟨(blk_cell BK653.out 0).trans rfl, (blk_cell BK653.out 1).trans rfl, (blk_cell BK647.out 0).trans rfl, (blk_cell BK647.out 1).trans rfl⟩ (fun hHeld => ?_)
           clear hK K
           refine nm ?_
           refine one_ (i := 18) (N := some 76) (bl 24 524287) rfl rfl (one_of HT_.out (by kernel_rfl)) (by decide) (fun K hK => ?_)
           refine goes_ Tryz.func24 (by kernel_rfl) rfl #[.slice Ao69 t654.length co69, .slice Ao70 t663.length co70] (by rfl) rfl rfl uM ?_
           with_reducible refine (quinariaref02_Same.calls kj15 _ _ t654 _ _ t663 false _ ?side1 ?side2 ?side3 ?side4 A57.out).mono ?_
           (case side1 => repeat (first | exact (Kd.R_reads' HO_7.out).2.2 | (with_reducible refine Kd.C_alloc ?_ _) | (with_reducible refine Kd.C_drewN ?_ _) | (with_reducible refine Kd.C_drew ?_)))
           (case side2 => exact (Kd.R_reads' HO_7.out).2.1)
           (case side3 => repeat (first | exact (Kd.R_reads' HO665.out).2.2 | (with_reducible refine Kd.C_alloc ?_ _) | (with_reducible refine Kd.C_drewN ?_ _) | (with_reducible refine Kd.C_drew ?_)))
           (case side4 => exact (Kd.R_reads' HO665.out).2.1)
           rintro e w' ⟨rfl, ⟨nd, rfl⟩⟩
           refine ⟨_, rfl, ?_⟩
           refine hK.out _ _ ⟨(blk_cell BK653.out 0).trans rfl, (blk_cell BK653.out 1).trans rfl, (blk_cell BK647.out 0).trans rfl, (blk_cell BK647.out 1).trans rfl⟩ (fun hHeld => ?_)
           clear hK K
           refine nm ?_
           refine pu 19 77 24 1048575 ?_
           refine pu 20 78 24 2097151 ?_
           refine pure_ (i := 21) (N := some 79) (v := undef) (a' := ?_) (bl 24 4194303) rfl rfl (any_of HT_.out (by kernel_rfl)) (fun _ _ _ h => h) (Or.inr ⟨by rfl, rfl⟩) ?_ ?_
           rotate_left
           ·simp only [Act.put, List.setIfInBounds_toArray, List.set_cons_zero, List.set_cons_succ, i64_w, i32_w]
            rfl
           refine pu 22 80 24 8388607 ?_
           refine pu 23 4 24 16777215 ?_
           refine done_ (done_of HT_.out (by kernel_rfl)) ?_
           try go_wp2
           go_ret
           exact ⟨uE, uB⟩
         ·rw [if_neg c55] at H
          have c55b0 : (t657 == 0) = false := beq_eq_false_iff_ne.mpr c55
          have c55b1 : (t657 != 0) = true := bne_iff_ne.mpr c55
          obtain rfl := Option.some.inj H
          try go_wp2
          replace HO_7 := Aside0.mk (Kd.R_drew HO_7.out)
          replace BK647 := Aside0.mk (blk_drew BK647.out)
          replace BK653 := Aside0.mk (blk_drew BK653.out)
          replace HB := Aside0.mk (below_drew1 HB.out)
          refine start_ (n := 24) (S := fun w' => w'.cell? ⟨gb653, 0, none⟩ = some (.int .i64 t650) ∧ w'.cell? ⟨gb653, 1, none⟩ = some (.int .i64 t651) ∧ w'.cell? ⟨gb647, 0, none⟩ = some (.slice A0_0 l0_0.length c0_0) ∧ w'.cell? ⟨gb647, 1, none⟩ = some (.slice A0_1 l0_1.length c0_1)) (ds := []) (bl 24 0) (by kernel_rfl) rfl rfl ⟨(blk_cell BK653.out 0).trans rfl, (blk_cell BK653.out 1).trans rfl, (blk_cell BK647.out 0).trans rfl, (blk_cell BK647.out 1).trans rfl⟩ (fun hHeld => ?_); refine with_tabW quinarialaw02_ChannelLines.tab7 quinarialaw02_ChannelLines.bits7 (fun HT_ HW_ => ?_)
          generalize wc.drew = w71 at HO_7 BK647 BK653 HB hHeld ⊢
          refine pu 0 58 24 1 ?_
          refine pu 1 59 24 3 ?_
          refine pu 2 60 24 7 ?_
          refine pu 5 63 24 39 ?_
          refine tk4 3 61 24 47 hHeld ?_
          refine tk4 4 62 24 63 hHeld ?_
          refine one_ (i := 6) (N := some 64) (bl 24 127) rfl rfl (one_of HT_.out (by kernel_rfl)) (by decide) (fun K hK => ?_)
          refine goes_ Tryz.func23 (by kernel_rfl) rfl #[.agg #[.slice A0_0 l0_0.length c0_0, .slice A0_1 l0_1.length c0_1], .slice A1 l1.length c1] (by rfl) rfl rfl uM ?_
          with_reducible refine (quinariaref02_Line.calls kj15 _ _ l0_0 _ _ l0_1 _ _ l1 t661 t662 _ ?side1 ?side2 ?side3 ?side4 ?side5 ?side6 A53.out).mono ?_
          (case side1 => repeat (first | exact (Kd.C_below HR0_0.out HB.out) | (with_reducible refine Kd.C_alloc ?_ _) | (with_reducible refine Kd.C_drewN ?_ _) | (with_reducible refine Kd.C_drew ?_)))
          (case side2 => exact HC0_0.out)
          (case side3 => repeat (first | exact (Kd.C_below HR0_1.out HB.out) | (with_reducible refine Kd.C_alloc ?_ _) | (with_reducible refine Kd.C_drewN ?_ _) | (with_reducible refine Kd.C_drew ?_)))
          (case side4 => exact HC0_1.out)
          (case side5 => repeat (first | exact (Kd.C_below HR1.out HB.out) | (with_reducible refine Kd.C_alloc ?_ _) | (with_reducible refine Kd.C_drewN ?_ _) | (with_reducible refine Kd.C_drew ?_)))
          (case side6 => exact HC1.out)
          rintro e w72 ⟨rfl, hb⟩
          refine ⟨_, rfl, ?_⟩
          replace HO_7 := Aside0.mk (Kd.R_below (uR HO_7.out) hb)
          replace BK647 := Aside0.mk (blk_below (uK BK647.out) hb)
          replace BK653 := Aside0.mk (blk_below (uK BK653.out) hb)
          replace HB := Aside0.mk (below_step uB hb)
          (try clear hb)
          (try clear hb2)
          (try clear hk)
          (try clear hi)
          refine hK.out _ _ ⟨(blk_cell BK653.out 0).trans rfl, (blk_cell BK653.out 1).trans rfl, (blk_cell BK647.out 0).trans rfl, (blk_cell BK647.out 1).trans rfl⟩ (fun hHeld => ?_)
          clear hK K
          refine nm ?_
          refine pu 7 65 24 255 ?_
          refine pu 8 66 24 511 ?_
          refine pu 9 67 24 1023 ?_
          refine pu 10 68 24 2047 ?_
          refine pu 11 69 24 4095 ?_
          refine pu 12 70 24 8191 ?_
          refine pu 13 71 24 16383 ?_
          refine pure_ (i := 14) (N := some 72) (v := undef) (a' := ?_) (bl 24 32767) rfl rfl (any_of HT_.out (by kernel_rfl)) (fun _ _ _ h => h) (Or.inr ⟨by rfl, rfl⟩) ?_ ?_
          rotate_left
          ·simp only [Act.put, List.setIfInBounds_toArray, List.set_cons_zero, List.set_cons_succ, i64_w, i32_w]
           rfl
          refine pure_ (i := 15) (N := some 73) (v := undef) (a' := ?_) (bl 24 65535) rfl rfl (any_of HT_.out (by kernel_rfl)) (fun _ _ _ h => h) (Or.inr ⟨by rfl, rfl⟩) ?_ ?_
          rotate_left
          ·simp only [Act.put, List.setIfInBounds_toArray, List.set_cons_zero, List.set_cons_succ, i64_w, i32_w]
           rfl
          refine pure_ (i := 16) (N := some 74) (v := undef) (a' := ?_) (bl 24 131071) rfl rfl (any_of HT_.out (by kernel_rfl)) (fun _ _ _ h => h) (Or.inr ⟨by rfl, rfl⟩) ?_ ?_
          rotate_left
          ·simp only [Act.put, List.setIfInBounds_toArray, List.set_cons_zero, List.set_cons_succ, i64_w, i32_w]
           rfl
          refine pure_ (i := 17) (N := some 75) (v := undef) (a' := ?_) (bl 24 262143) rfl rfl (any_of HT_.out (by kernel_rfl)) (fun _ _ _ h => h) (Or.inr ⟨by rfl, rfl⟩) ?_ ?_
          rotate_left
          ·simp only [Act.put, List.setIfInBounds_toArray, List.set_cons_zero, List.set_cons_succ, i64_w, i32_w]
           rfl
          refine pure_ (i := 18) (N := some 76) (v := undef) (a' := ?_) (bl 24 524287) rfl rfl (any_of HT_.out (by kernel_rfl)) (fun _ _ _ h => h) (Or.inr ⟨by rfl, rfl⟩) ?_ ?_
          rotate_left
          ·simp only [Act.put, List.setIfInBounds_toArray, List.set_cons_zero, List.set_cons_succ, i64_w, i32_w]
           rfl
          refine pu 19 77 24 1048575 ?_
          refine pu 20 78 24 2097151 ?_
          refine pure_ (i := 21) (N := some 79) (v := undef) (a' := ?_) (bl 24 4194303) rfl rfl (any_of HT_.out (by kernel_rfl)) (fun _ _ _ h => h) (Or.inr ⟨by rfl, rfl⟩) ?_ ?_
          rotate_left
          ·simp only [Act.put, List.setIfInBounds_toArray, List.set_cons_zero, List.set_cons_succ, i64_w, i32_w]
           rfl
          refine pu 22 80 24 8388607 ?_
          refine pu 23 4 24 16777215 ?_
          refine done_ (done_of HT_.out (by kernel_rfl)) ?_
          try go_wp2
          go_ret
          exact ⟨uE, uB⟩
        ·rw [if_neg c54] at H
         have c54b0 : (t650 == t661 && (t651 == t662)) = false := by simpa using c54
         (try (have c54b1 : decide (t650 = t661 && (t651 == t662)) = false := by simpa using c54))
         (try (have c54b2 : (t650 == t661 && (t651 == t662)) = false := by simpa using c54))
         (try (have c54b3 : ¬ (t650 = t661 && (t651 == t662)) := by simpa using c54))
         clear c54
         obtain rfl := Option.some.inj H
         try go_wp2
         replace HO_7 := Aside0.mk (Kd.R_drew HO_7.out)
         replace BK647 := Aside0.mk (blk_drew BK647.out)
         replace BK653 := Aside0.mk (blk_drew BK653.out)
         replace HB := Aside0.mk (below_drew1 HB.out)
         refine start_ (n := 24) (S := fun w' => w'.cell? ⟨gb653, 0, none⟩ = some (.int .i64 t650) ∧ w'.cell? ⟨gb653, 1, none⟩ = some (.int .i64 t651) ∧ w'.cell? ⟨gb647, 0, none⟩ = some (.slice A0_0 l0_0.length c0_0) ∧ w'.cell? ⟨gb647, 1, none⟩ = some (.slice A0_1 l0_1.length c0_1)) (ds := []) (bl 24 0) (by kernel_rfl) rfl rfl ⟨(blk_cell BK653.out 0).trans rfl, (blk_cell BK653.out 1).trans rfl, (blk_cell BK647.out 0).trans rfl, (blk_cell BK647.out 1).trans rfl⟩ (fun hHeld => ?_); refine with_tabW quinarialaw02_ChannelLines.tab7 quinarialaw02_ChannelLines.bits7 (fun HT_ HW_ => ?_)
         generalize wc.drew = w73 at HO_7 BK647 BK653 HB hHeld ⊢
         refine pu 0 58 24 1 ?_
         refine pu 1 59 24 3 ?_
         refine pu 2 60 24 7 ?_
         refine pu 5 63 24 39 ?_
         refine tk4 3 61 24 47 hHeld ?_
         refine tk4 4 62 24 63 hHeld ?_
         refine one_ (i := 6) (N := some 64) (bl 24 127) rfl rfl (one_of HT_.out (by kernel_rfl)) (by decide) (fun K hK => ?_)
         refine goes_ Tryz.func23 (by kernel_rfl) rfl #[.agg #[.slice A0_0 l0_0.length c0_0, .slice A0_1 l0_1.length c0_1], .slice A1 l1.length c1] (by rfl) rfl rfl uM ?_
         with_reducible refine (quinariaref02_Line.calls kj15 _ _ l0_0 _ _ l0_1 _ _ l1 t661 t662 _ ?side1 ?side2 ?side3 ?side4 ?side5 ?side6 A53.out).mono ?_
         (case side1 => repeat (first | exact (Kd.C_below HR0_0.out HB.out) | (with_reducible refine Kd.C_alloc ?_ _) | (with_reducible refine Kd.C_drewN ?_ _) | (with_reducible refine Kd.C_drew ?_)))
         (case side2 => exact HC0_0.out)
         (case side3 => repeat (first | exact (Kd.C_below HR0_1.out HB.out) | (with_reducible refine Kd.C_alloc ?_ _) | (with_reducible refine Kd.C_drewN ?_ _) | (with_reducible refine Kd.C_drew ?_)))
         (case side4 => exact HC0_1.out)
         (case side5 => repeat (first | exact (Kd.C_below HR1.out HB.out) | (with_reducible refine Kd.C_alloc ?_ _) | (with_reducible refine Kd.C_drewN ?_ _) | (with_reducible refine Kd.C_drew ?_)))
         (case side6 => exact HC1.out)
         rintro e w74 ⟨rfl, hb⟩
         refine ⟨_, rfl, ?_⟩
         replace HO_7 := Aside0.mk (Kd.R_below (uR HO_7.out) hb)
         replace BK647 := Aside0.mk (blk_below (uK BK647.out) hb)
         replace BK653 := Aside0.mk (blk_below (uK BK653.out) hb)
         replace HB := Aside0.mk (below_step uB hb)
         (try clear hb)
         (try clear hb2)
         (try clear hk)
         (try clear hi)
         refine hK.out _ _ ⟨(blk_cell BK653.out 0).trans rfl, (blk_cell BK653.out 1).trans rfl, (blk_cell BK647.out 0).trans rfl, (blk_cell BK647.out 1).trans rfl⟩ (fun hHeld => ?_)
         clear hK K
         refine nm ?_
         refine pu 7 65 24 255 ?_
         refine pu 8 66 24 511 ?_
         refine pu 9 67 24 1023 ?_
         refine pure_ (i := 10) (N := some 68) (v := undef) (a' := ?_) (bl 24 2047) rfl rfl (any_of HT_.out (by kernel_rfl)) (fun _ _ _ h => h) (Or.inr ⟨by rfl, rfl⟩) ?_ ?_
         rotate_left
         ·simp only [Act.put, List.setIfInBounds_toArray, List.set_cons_zero, List.set_cons_succ, i64_w, i32_w]
          rfl
         refine pure_ (i := 11) (N := some 69) (v := undef) (a' := ?_) (bl 24 4095) rfl rfl (any_of HT_.out (by kernel_rfl)) (fun _ _ _ h => h) (Or.inr ⟨by rfl, rfl⟩) ?_ ?_
         rotate_left
         ·simp only [Act.put, List.setIfInBounds_toArray, List.set_cons_zero, List.set_cons_succ, i64_w, i32_w]
          rfl
         refine pu 12 70 24 8191 ?_
         refine pu 13 71 24 16383 ?_
         refine pure_ (i := 14) (N := some 72) (v := undef) (a' := ?_) (bl 24 32767) rfl rfl (any_of HT_.out (by kernel_rfl)) (fun _ _ _ h => h) (Or.inr ⟨by rfl, rfl⟩) ?_ ?_
         rotate_left
         ·simp only [Act.put, List.setIfInBounds_toArray, List.set_cons_zero, List.set_cons_succ, i64_w, i32_w]
          rfl
         refine pure_ (i := 15) (N := some 73) (v := undef) (a' := ?_) (bl 24 65535) rfl rfl (any_of HT_.out (by kernel_rfl)) (fun _ _ _ h => h) (Or.inr ⟨by rfl, rfl⟩) ?_ ?_
         rotate_left
         ·simp only [Act.put, List.setIfInBounds_toArray, List.set_cons_zero, List.set_cons_succ, i64_w, i32_w]
          rfl
         refine pure_ (i := 16) (N := some 74) (v := undef) (a' := ?_) (bl 24 131071) rfl rfl (any_of HT_.out (by kernel_rfl)) (fun _ _ _ h => h) (Or.inr ⟨by rfl, rfl⟩) ?_ ?_
         rotate_left
         ·simp only [Act.put, List.setIfInBounds_toArray, List.set_cons_zero, List.set_cons_succ, i64_w, i32_w]
          rfl
         refine pure_ (i := 17) (N := some 75) (v := undef) (a' := ?_) (bl 24 262143) rfl rfl (any_of HT_.out (by kernel_rfl)) (fun _ _ _ h => h) (Or.inr ⟨by rfl, rfl⟩) ?_ ?_
         rotate_left
         ·simp only [Act.put, List.setIfInBounds_toArray, List.set_cons_zero, List.set_cons_succ, i64_w, i32_w]
          rfl
         refine pure_ (i := 18) (N := some 76) (v := undef) (a' := ?_) (bl 24 524287) rfl rfl (any_of HT_.out (by kernel_rfl)) (fun _ _ _ h => h) (Or.inr ⟨by rfl, rfl⟩) ?_ ?_
         rotate_left
         ·simp only [Act.put, List.setIfInBounds_toArray, List.set_cons_zero, List.set_cons_succ, i64_w, i32_w]
          rfl
         refine pu 19 77 24 1048575 ?_
         refine pu 20 78 24 2097151 ?_
         refine pure_ (i := 21) (N := some 79) (v := undef) (a' := ?_) (bl 24 4194303) rfl rfl (any_of HT_.out (by kernel_rfl)) (fun _ _ _ h => h) (Or.inr ⟨by rfl, rfl⟩) ?_ ?_
         rotate_left
         ·simp only [Act.put, List.setIfInBounds_toArray, List.set_cons_zero, List.set_cons_succ, i64_w, i32_w]
          rfl
         refine pu 22 80 24 8388607 ?_
         refine pu 23 4 24 16777215 ?_
         refine done_ (done_of HT_.out (by kernel_rfl)) ?_
         try go_wp2
         go_ret
         exact ⟨uE, uB⟩
       ·rw [if_neg c52] at H
        have c52b0 : (t652 == 0) = false := beq_eq_false_iff_ne.mpr c52
        have c52b1 : (t652 != 0) = true := bne_iff_ne.mpr c52
        obtain rfl := Option.some.inj H
        try go_wp2
        replace HO_7 := Aside0.mk (Kd.R_drew HO_7.out)
        replace BK647 := Aside0.mk (blk_drew BK647.out)
        replace BK653 := Aside0.mk (blk_drew BK653.out)
        replace HB := Aside0.mk (below_drew1 HB.out)
        refine start_ (n := 24) (S := fun w' => True) (ds := []) (bl 24 0) (by kernel_rfl) rfl rfl trivial (fun hHeld => ?_); refine with_tabW quinarialaw02_ChannelLines.tab7 quinarialaw02_ChannelLines.bits7 (fun HT_ HW_ => ?_)
        generalize wc.drew = w75 at HO_7 BK647 BK653 HB hHeld ⊢
        refine pu 0 58 24 1 ?_
        refine pu 1 59 24 3 ?_
        refine pu 2 60 24 7 ?_
        refine pure_ (i := 3) (N := some 61) (v := undef) (a' := ?_) (bl 24 15) rfl rfl (any_of HT_.out (by kernel_rfl)) (fun _ _ _ h => h) (Or.inr ⟨by rfl, rfl⟩) ?_ ?_
        rotate_left
        ·simp only [Act.put, List.setIfInBounds_toArray, List.set_cons_zero, List.set_cons_succ, i64_w, i32_w]
         rfl
        refine pure_ (i := 4) (N := some 62) (v := undef) (a' := ?_) (bl 24 31) rfl rfl (any_of HT_.out (by kernel_rfl)) (fun _ _ _ h => h) (Or.inr ⟨by rfl, rfl⟩) ?_ ?_
        rotate_left
        ·simp only [Act.put, List.setIfInBounds_toArray, List.set_cons_zero, List.set_cons_succ, i64_w, i32_w]
         rfl
        refine pure_ (i := 5) (N := some 63) (v := undef) (a' := ?_) (bl 24 63) rfl rfl (any_of HT_.out (by kernel_rfl)) (fun _ _ _ h => h) (Or.inr ⟨by rfl, rfl⟩) ?_ ?_
        rotate_left
        ·simp only [Act.put, List.setIfInBounds_toArray, List.set_cons_zero, List.set_cons_succ, i64_w, i32_w]
         rfl
        refine pure_ (i := 6) (N := some 64) (v := undef) (a' := ?_) (bl 24 127) rfl rfl (any_of HT_.out (by kernel_rfl)) (fun _ _ _ h => h) (Or.inr ⟨by rfl, rfl⟩) ?_ ?_
        rotate_left
        ·simp only [Act.put, List.setIfInBounds_toArray, List.set_cons_zero, List.set_cons_succ, i64_w, i32_w]
         rfl
        refine pure_ (i := 7) (N := some 65) (v := undef) (a' := ?_) (bl 24 255) rfl rfl (any_of HT_.out (by kernel_rfl)) (fun _ _ _ h => h) (Or.inr ⟨by rfl, rfl⟩) ?_ ?_
        rotate_left
        ·simp only [Act.put, List.setIfInBounds_toArray, List.set_cons_zero, List.set_cons_succ, i64_w, i32_w]
         rfl
        refine pu 8 66 24 511 ?_
        refine pu 9 67 24 1023 ?_
        refine pure_ (i := 10) (N := some 68) (v := undef) (a' := ?_) (bl 24 2047) rfl rfl (any_of HT_.out (by kernel_rfl)) (fun _ _ _ h => h) (Or.inr ⟨by rfl, rfl⟩) ?_ ?_
        rotate_left
        ·simp only [Act.put, List.setIfInBounds_toArray, List.set_cons_zero, List.set_cons_succ, i64_w, i32_w]
         rfl
        refine pure_ (i := 11) (N := some 69) (v := undef) (a' := ?_) (bl 24 4095) rfl rfl (any_of HT_.out (by kernel_rfl)) (fun _ _ _ h => h) (Or.inr ⟨by rfl, rfl⟩) ?_ ?_
        rotate_left
        ·simp only [Act.put, List.setIfInBounds_toArray, List.set_cons_zero, List.set_cons_succ, i64_w, i32_w]
         rfl
        refine pu 12 70 24 8191 ?_
        refine pu 13 71 24 16383 ?_
        refine pure_ (i := 14) (N := some 72) (v := undef) (a' := ?_) (bl 24 32767) rfl rfl (any_of HT_.out (by kernel_rfl)) (fun _ _ _ h => h) (Or.inr ⟨by rfl, rfl⟩) ?_ ?_
        rotate_left
        ·simp only [Act.put, List.setIfInBounds_toArray, List.set_cons_zero, List.set_cons_succ, i64_w, i32_w]
         rfl
        refine pure_ (i := 15) (N := some 73) (v := undef) (a' := ?_) (bl 24 65535) rfl rfl (any_of HT_.out (by kernel_rfl)) (fun _ _ _ h => h) (Or.inr ⟨by rfl, rfl⟩) ?_ ?_
        rotate_left
        ·simp only [Act.put, List.setIfInBounds_toArray, List.set_cons_zero, List.set_cons_succ, i64_w, i32_w]
         rfl
        refine pure_ (i := 16) (N := some 74) (v := undef) (a' := ?_) (bl 24 131071) rfl rfl (any_of HT_.out (by kernel_rfl)) (fun _ _ _ h => h) (Or.inr ⟨by rfl, rfl⟩) ?_ ?_
        rotate_left
        ·simp only [Act.put, List.setIfInBounds_toArray, List.set_cons_zero, List.set_cons_succ, i64_w, i32_w]
         rfl
        refine pure_ (i := 17) (N := some 75) (v := undef) (a' := ?_) (bl 24 262143) rfl rfl (any_of HT_.out (by kernel_rfl)) (fun _ _ _ h => h) (Or.inr ⟨by rfl, rfl⟩) ?_ ?_
        rotate_left
        ·simp only [Act.put, List.setIfInBounds_toArray, List.set_cons_zero, List.set_cons_succ, i64_w, i32_w]
         rfl
        refine pure_ (i := 18) (N := some 76) (v := undef) (a' := ?_) (bl 24 524287) rfl rfl (any_of HT_.out (by kernel_rfl)) (fun _ _ _ h => h) (Or.inr ⟨by rfl, rfl⟩) ?_ ?_
        rotate_left
        ·simp only [Act.put, List.setIfInBounds_toArray, List.set_cons_zero, List.set_cons_succ, i64_w, i32_w]
         rfl
        refine pu 19 77 24 1048575 ?_
        refine pu 20 78 24 2097151 ?_
        refine pure_ (i := 21) (N := some 79) (v := undef) (a' := ?_) (bl 24 4194303) rfl rfl (any_of HT_.out (by kernel_rfl)) (fun _ _ _ h => h) (Or.inr ⟨by rfl, rfl⟩) ?_ ?_
        rotate_left
        ·simp only [Act.put, List.setIfInBounds_toArray, List.set_cons_zero, List.set_cons_succ, i64_w, i32_w]
         rfl
        refine pu 22 80 24 8388607 ?_
        refine pu 23 4 24 16777215 ?_
        refine done_ (done_of HT_.out (by kernel_rfl)) ?_
        try go_wp2
        go_ret
        exact ⟨uE, uB⟩
end Go.Proofs.YtdmdahafiiggiaaGreatDoor.K
end
section
namespace Go.Proofs.YtdmdahafiiggiaaGreatDoor.K
open Go.RowKit Go.Proofs.YtdmdahafiiggiaaGreatDoorW.PrintWords Go.Proofs.YtdmdahafiiggiaaGreatDoorW.PrintLast Go.Proofs.YtdmdahafiiggiaaGreatDoorW.PrintMore
set_option linter.unusedVariables false
set_option linter.unusedSimpArgs false
theorem cupsN_anti {sp : List Int} {st : List S32} (h : isLineB sp st = true) {n : Int} (hn : numB st n = true) {a a' r r' : Int} (a0 : 0 ≤ a) (ha : a ≤ a') (r0 : 0 ≤ r) (hr : r ≤ r') : cupsN sp st n a' r' ≤ cupsN sp st n a r := by
  have hn := num_range hn
  have hs := line_at h hn.1 hn.2
  unfold cupsN
  have h1 : r * a ≤ r' * a' := Int.mul_le_mul hr ha a0 (by omega)
  have h0 : 0 ≤ r * a := Int.mul_nonneg r0 a0
  have hl : r * a / 100 ≤ r' * a' / 100 := Int.ediv_le_ediv (by omega) h1
  have hl0 : 0 ≤ r * a / 100 := by omega
  generalize r * a / 100 = l at *
  generalize r' * a' / 100 = l' at *
  generalize rd_T32 st n = s at *
  unfold carry
  have := hs.s0
  have m1 : mx 0 (s.f0 - 2 * l') ≤ mx 0 (s.f0 - 2 * l) := by unfold mx; split <;> split <;> omega
  have m2 : mx 0 (s.f1 - l') ≤ mx 0 (s.f1 - l) := by unfold mx; split <;> split <;> omega
  exact Int.mul_le_mul_of_nonneg_right (Int.mul_le_mul m1 m2 (mx_ge 0 _).1 (mx_ge 0 _).1) (by omega)
end Go.Proofs.YtdmdahafiiggiaaGreatDoor.K
end
section
namespace Go.Proofs.YtdmdahafiiggiaaGreatDoor.K
open Go.RowKit Go.Proofs.YtdmdahafiiggiaaGreatDoorW.PrintWords Go.Proofs.YtdmdahafiiggiaaGreatDoorW.PrintLast Go.Proofs.YtdmdahafiiggiaaGreatDoorW.PrintMore
set_option linter.unusedVariables false
set_option linter.unusedSimpArgs false
abbrev ST := S32
abbrev SPN := S30
variable {sp : List Int} {st : List ST}
theorem w1 {x : Int} (h0 : -1 ≤ x) (h : x < 9223372036854775807) : wrap64 (x + 1) = x + 1 := IntWalk.wrap64_in _ (by omega)
theorem drop_get {α : Type} {l : List α} {j : Nat} {a : α} {r : List α} (h : l.drop j = a :: r) : j < l.length ∧ l.drop (j + 1) = r ∧ ∀ d, l.getD j d = a := by
  have hj : j < l.length := by
    rcases Nat.lt_or_ge j l.length with h1 | h1
    · exact h1
    · rw [List.drop_eq_nil_of_le h1] at h; cases h
  rw [List.drop_eq_getElem_cons hj] at h
  injection h with h1 h2
  exact ⟨hj, h2, fun d => by simp [List.getD, List.getElem?_eq_getElem hj, h1]⟩
theorem rd_drop {l : List Int} {j : Nat} {a : Int} {r : List Int} (h : l.drop j = a :: r) : rd l (j : Int) = a := by simp only [rd, Int.toNat_natCast]; exact (drop_get h).2.2 0
theorem rd_at (l : List Int) (j : Nat) : rd l (j : Int) = l.getD j 0 := by simp [rd]
theorem getD_mem {α : Type} {l : List α} {j : Nat} (d : α) (h : j < l.length) : l.getD j d ∈ l := by
  rw [List.getD, List.getElem?_eq_getElem h]
  exact List.getElem_mem h
theorem short_f (sp : List Int) (st : List ST) : quinarialaw02_short.f sp st = some (shortB sp st) := by
  unfold quinarialaw02_short.f shortB
  by_cases h1 : sp.length ≤ 13
  · rw [if_pos (by omega)]
    by_cases h2 : st.length ≤ 10
    · simp [h1, h2]; omega
    · simp [h1, h2]; omega
  · rw [if_neg (by omega)]; simp [h1]
theorem cupsN_range (h : isLineB sp st = true) {n age rate : Int} (hn : numB st n = true) (a0 : 0 ≤ age) (r0 : 0 ≤ rate) : 0 ≤ cupsN sp st n age rate ∧ cupsN sp st n age rate ≤ 10000000 := by
  have hn := num_range hn
  have hs := line_at h hn.1 hn.2
  have hp : 0 ≤ rate * age := Int.mul_nonneg r0 a0
  unfold cupsN
  have hl : 0 ≤ rate * age / 100 := by omega
  generalize rate * age / 100 = l at *
  generalize rd_T32 st n = s at *
  obtain ⟨b0, b1, d0, d1, -, -, -, -, -, s0, s1⟩ := hs
  unfold carry
  have hp := prod_range (mx_ge 0 (s.f0 - 2 * l)).1 (mx_le (show (0 : Int) ≤ 100 by omega) (show s.f0 - 2 * l ≤ 100 by omega)) (mx_ge 0 (s.f1 - l)).1 (mx_le (show (0 : Int) ≤ 100 by omega) (show s.f1 - l ≤ 100 by omega)) (show 0 ≤ rd sp s.f2 by omega) s1
  omega
theorem rcar_from (h : isLineB sp st = true) {n age : Int} (hn : numB st n = true) (ha : inB age 0 200 = true) : ∀ (d : Nat) (r : Int) (K : Nat), (rd_T32 st n).f3.f0 < r → r + d = (rd_T32 st n).f3.f1 + 1 → d < K →
    quinariaref02_Carries.l0 K n age r sp st (cupsN sp st n age (r - 1)) (mostN sp st n age) = some (leastN sp st n age, mostN sp st n age)
  | 0, r, K + 1, h1, h2, hK => by
    have hn' := num_range hn
    unfold quinariaref02_Carries.l0
    rw [if_pos hn'.1, if_pos hn'.2, if_neg (by omega), show r - 1 = (rd_T32 st n).f3.f1 by omega]
    rfl
  | d + 1, r, K + 1, h1, h2, hK => by
    have hn' := num_range hn
    have hs := line_at h hn'.1 hn'.2
    obtain ⟨-, -, -, -, -, -, l0, lh, lh1, -, -⟩ := hs
    have ha' := age_range ha
    unfold quinariaref02_Carries.l0
    rw [if_pos hn'.1, if_pos hn'.2, if_pos (by omega), cupsR_f h hn ha (by omega) (by omega), Option.bind_some, w1 (by omega) (by omega)]
    have e1 : mn (cupsN sp st n age (r - 1)) (cupsN sp st n age r) = cupsN sp st n age (r + 1 - 1) := by
      rw [show r + 1 - 1 = r by omega]
      have := cupsN_anti h hn ha'.1 (Int.le_refl age) (show 0 ≤ r - 1 by omega) (show r - 1 ≤ r by omega)
      unfold mn; split <;> omega
    have e2 : mx (mostN sp st n age) (cupsN sp st n age r) = mostN sp st n age := by
      have := cupsN_anti h hn ha'.1 (Int.le_refl age) l0 (show (rd_T32 st n).f3.f0 ≤ r by omega)
      unfold mx mostN; split <;> omega
    rw [e1, e2]
    exact rcar_from h hn ha d (r + 1) K (by omega) (by omega) (by omega)
theorem rcar_f (h : isLineB sp st = true) {n age : Int} (hn : numB st n = true) (ha : inB age 0 200 = true) (K : Nat) (hK : 102 < K) : quinariaref02_Carries.f K sp st n age = some (leastN sp st n age, mostN sp st n age) := by
  have hn' := num_range hn
  have hs := line_at h hn'.1 hn'.2
  obtain ⟨-, -, -, -, -, -, l0, lh, lh1, -, -⟩ := hs
  have ha' := age_range ha
  unfold quinariaref02_Carries.f
  rw [if_pos hn'.1, if_pos hn'.2]
  obtain ⟨K, rfl⟩ : ∃ k, K = k + 1 := ⟨K - 1, by omega⟩
  unfold quinariaref02_Carries.l0
  rw [if_pos hn'.1, if_pos hn'.2, if_pos lh, cupsR_f h hn ha l0 (by omega), Option.bind_some, w1 (by omega) (by omega)]
  have hr := cupsN_range h hn ha'.1 l0 (rate := (rd_T32 st n).f3.f0)
  have e1 : mn 10000001 (cupsN sp st n age (rd_T32 st n).f3.f0) = cupsN sp st n age ((rd_T32 st n).f3.f0 + 1 - 1) := by
    rw [Int.add_sub_cancel]; unfold mn; split <;> omega
  have e2 : mx (-1) (cupsN sp st n age (rd_T32 st n).f3.f0) = mostN sp st n age := by
    unfold mx mostN; split <;> omega
  rw [e1, e2]
  exact rcar_from h hn ha ((rd_T32 st n).f3.f1 - (rd_T32 st n).f3.f0).toNat _ K (by omega) (by omega) (by omega)
theorem ages_from (ages : List Int) (hl : ages.length ≤ 1000000) (hs : st.length ≤ 1000000) : ∀ (d j K : Nat), j + d = ages.length → d < K → quinariaref02_Ages.l0 K ages (j : Int) sp st = some ((ages.drop j).all (fun x => inB x 0 200) && (ages.length == st.length))
  | 0, j, K + 1, hj, hK => by
    unfold quinariaref02_Ages.l0
    rw [if_neg (by omega), List.drop_eq_nil_of_le (by omega), List.all_nil, Bool.true_and]
    congr 1
    rw [beq_cast]
    by_cases e : ages.length = st.length <;> simp [e]
  | d + 1, j, K + 1, hj, hK => by
    unfold quinariaref02_Ages.l0 quinariaref02_Age.f
    rw [if_pos (by omega), if_pos (by omega), inR_f, Option.bind_some, Option.bind_some, w1 (by omega) (by omega), all_drop _ 0 _ _ (by omega)]
    have e : rd ages (j : Int) = ages.getD j 0 := by simp [rd]
    rw [e]
    have ih := ages_from ages hl hs d (j + 1) K (by omega) (by omega)
    cases h1 : inB (ages.getD j 0) 0 200 with
    | true => simpa using ih
    | false => simp
theorem ages_f (ages : List Int) (hl : ages.length ≤ 1000000) (hs : st.length ≤ 1000000) (K : Nat) (hK : ages.length < K) : quinariaref02_Ages.f K sp st ages = some (areAgesB st.length ages) := by
  unfold quinariaref02_Ages.f areAgesB
  have := ages_from (sp := sp) ages hl hs ages.length 0 K (by omega) hK
  rw [show ((0 : Nat) : Int) = 0 from rfl] at this
  rw [this, List.drop_zero, Bool.and_comm]
def spansN (sp : List Int) (st : List ST) (j : Nat) : List Int → List SPN
  | [] => []
  | a :: l => ⟨leastN sp st j a, mostN sp st j a⟩ :: spansN sp st (j + 1) l
theorem spansN_len (j : Nat) (l : List Int) : (spansN sp st j l).length = l.length := by
  induction l generalizing j with
  | nil => rfl
  | cons a l ih => simp [spansN, ih]
theorem numB_of {j : Nat} (h : j < st.length) : numB st (j : Int) = true := by simp [numB, inB]; omega
theorem ages_all {ages : List Int} (h : areAgesB st.length ages = true) : ages.length = st.length ∧ ∀ a ∈ ages, inB a 0 200 = true := by
  simp only [areAgesB, Bool.and_eq_true, beq_iff_eq] at h
  exact ⟨h.1, fun a ha => List.all_eq_true.mp h.2 a ha⟩
theorem spans_from (h : isLineB sp st = true) {ages : List Int} (hg : areAgesB st.length ages = true) : ∀ (rest : List Int) (j : Nat) (acc : List SPN) (K : Nat), ages.drop j = rest → acc.length = j → rest.length < K →
    channel_spans.l0 K acc ages (ages.length : Int) (j : Int) sp st = some (acc ++ spansN sp st j rest)
  | [], j, acc, K + 1, hd, hc, hK => by
    have : ages.length ≤ j := by simpa using hd
    unfold channel_spans.l0
    rw [if_neg (by omega)]
    simp [spansN]
  | a :: rest, j, acc, K + 1, hd, hc, hK => by
    obtain ⟨hj, hd1, -⟩ := drop_get hd
    obtain ⟨hl, hall⟩ := ages_all hg
    have hlen := line_lens h
    have ha := hall a (by have : a ∈ ages.drop j := by rw [hd]; exact List.mem_cons_self ..
                          exact List.mem_of_mem_drop this)
    have ha' := age_range ha
    unfold channel_spans.l0
    rw [if_pos (by omega), if_pos (by omega), if_pos (by omega), rd_drop hd, aging_ok h (by omega) (by omega), Option.bind_some]
    unfold channel_aged_span.f
    simp only [least_ok h (show (0 : Int) ≤ (j : Int) by omega) (show (j : Int) < st.length by omega) ha'.1 ha'.2, most_ok h (show (0 : Int) ≤ (j : Int) by omega) (show (j : Int) < st.length by omega) ha'.1 ha'.2, Option.bind_some]
    rw [if_pos (by omega), w1 (by omega) (by omega)]
    have ih := spans_from h hg rest (j + 1) (acc ++ [⟨leastN sp st j a, mostN sp st j a⟩]) K hd1 (by simp [hc]) (by simp at hK; omega)
    rw [show ((j + 1 : Nat) : Int) = (j : Int) + 1 by omega] at ih
    rw [ih]
    simp [spansN]
theorem spans_f (h : isLineB sp st = true) {ages : List Int} (hg : areAgesB st.length ages = true) (K : Nat) (hK : ages.length < K) : channel_spans.f K sp st ages = some (spansN sp st 0 ages) := by
  unfold channel_spans.f
  have := spans_from h hg ages 0 [] K rfl rfl hK
  simpa using this
theorem lowest_from (l : List Int) (hl : l.length ≤ 1000000) : ∀ (rest : List Int) (j : Nat) (x : Int) (K : Nat), l.drop j = rest → rest.length < K → channel_lowest.l0 K x l (l.length : Int) (j : Int) = some (rest.foldl mn x)
  | [], j, x, K + 1, hd, hK => by
    have : l.length ≤ j := by simpa using hd
    unfold channel_lowest.l0
    rw [if_neg (by omega)]
    rfl
  | a :: rest, j, x, K + 1, hd, hK => by
    obtain ⟨hj, hd1, -⟩ := drop_get hd
    unfold channel_lowest.l0
    rw [if_pos (by omega), if_pos (by omega), if_pos (by omega), rd_drop hd, w1 (by omega) (by omega)]
    have ih := lowest_from l hl rest (j + 1) (mn x a) K hd1 (by simp at hK; omega)
    rw [show ((j + 1 : Nat) : Int) = (j : Int) + 1 by omega] at ih
    exact ih
theorem lowest_f (x : Int) (l : List Int) (hl : l.length ≤ 1000000) (K : Nat) (hK : l.length < K) : channel_lowest.f K x l = some (l.foldl mn x) := by
  unfold channel_lowest.f
  have := lowest_from l hl l 0 x K rfl hK
  simpa using this
theorem rdT_drop {l : List SPN} {j : Nat} {a : SPN} {r : List SPN} (h : l.drop j = a :: r) : rd_T30 l (j : Int) = a := by simp only [rd_T30, Int.toNat_natCast]; exact (drop_get h).2.2 _
theorem line_from (S : List SPN) (hS : S.length ≤ 1000) (hS0 : S ≠ []) : ∀ (rest : List SPN) (j : Nat) (lo hi : List Int) (K : Nat), S.drop j = rest → lo.length = j → hi.length = j → lo ++ rest.map (·.f0) = S.map (·.f0) → hi ++ rest.map (·.f1) = S.map (·.f1) → rest.length + S.length + 2 < K →
    channel_Line.l0 K lo hi S (S.length : Int) (j : Int) = some ((S.map (·.f0)).foldl mn (rd (S.map (·.f0)) 0), (S.map (·.f1)).foldl mn (rd (S.map (·.f1)) 0), 0)
  | [], j, lo, hi, K + 1, hd, h1, h2, e1, e2, hK => by
    have : S.length ≤ j := by simpa using hd
    have hp : 0 < S.length := List.length_pos_iff.mpr hS0
    rw [List.map_nil, List.append_nil] at e1 e2
    subst e1 e2
    simp only [List.length_map] at h1 h2
    unfold channel_Line.l0
    rw [if_neg (by omega), if_pos (by simp; omega), lowest_f _ _ (by simp; omega) K (by simp at hK ⊢; omega), Option.bind_some, if_pos (by simp; omega), lowest_f _ _ (by simp; omega) K (by simp at hK ⊢; omega), Option.bind_some]
  | a :: rest, j, lo, hi, K + 1, hd, h1, h2, e1, e2, hK => by
    obtain ⟨hj, hd1, -⟩ := drop_get hd
    unfold channel_Line.l0
    rw [if_pos (by omega), if_pos (by omega), if_pos (by omega), rdT_drop hd, Option.bind_some, if_pos (by simp; omega), Option.bind_some, if_pos (by simp; omega), w1 (by omega) (by omega)]
    have ih := line_from S hS hS0 rest (j + 1) (lo ++ [a.f0]) (hi ++ [a.f1]) K hd1 (by simp [h1]) (by simp [h2]) (by simpa using e1) (by simpa using e2) (by simp at hK; omega)
    rw [show ((j + 1 : Nat) : Int) = (j : Int) + 1 by omega] at ih
    exact ih
def minF (S : List SPN) : Int := (S.map (·.f0)).foldl mn 10000001
def minG (S : List SPN) : Int := (S.map (·.f1)).foldl mn 10000001
theorem foldl_first (l : List Int) (hl : l ≠ []) (hx : ∀ x ∈ l, x ≤ 10000001) : l.foldl mn (rd l 0) = l.foldl mn 10000001 := by
  cases l with
  | nil => exact absurd rfl hl
  | cons a l =>
    have := hx a (List.mem_cons_self ..)
    have e1 : mn (rd (a :: l) 0) a = a := by simp [rd, mn]
    have e2 : mn 10000001 a = a := by unfold mn; split <;> omega
    rw [List.foldl_cons, List.foldl_cons, e1, e2]
theorem spansN_mem (h : isLineB sp st = true) : ∀ (l : List Int) (j : Nat), j + l.length ≤ st.length → (∀ a ∈ l, inB a 0 200 = true) → ∀ s ∈ spansN sp st j l, 0 ≤ s.f0 ∧ s.f0 ≤ s.f1 ∧ s.f1 ≤ 10000000
  | [], j, _, _, s, hs => by simp [spansN] at hs
  | a :: l, j, hj, ha, s, hs => by
    simp only [spansN, List.mem_cons] at hs
    rcases hs with rfl | hs
    · have hn : numB st (j : Int) = true := numB_of (by simp at hj; omega)
      have hn' := num_range hn
      obtain ⟨-, -, -, -, -, -, l0, lh, lh1, -, -⟩ := line_at h hn'.1 hn'.2
      have ha' := age_range (ha a (List.mem_cons_self ..))
      exact ⟨(cupsN_range h hn ha'.1 (by omega)).1, cupsN_anti h hn ha'.1 (Int.le_refl _) l0 lh, (cupsN_range h hn ha'.1 l0).2⟩
    · exact spansN_mem h l (j + 1) (by simp at hj; omega) (fun x hx => ha x (List.mem_cons_of_mem _ hx)) s hs
theorem spans_mem (h : isLineB sp st = true) {ages : List Int} (hg : areAgesB st.length ages = true) : ∀ s ∈ spansN sp st 0 ages, 0 ≤ s.f0 ∧ s.f0 ≤ s.f1 ∧ s.f1 ≤ 10000000 := by
  obtain ⟨h1, h2⟩ := ages_all hg
  exact spansN_mem h ages 0 (by omega) h2
theorem spans_ne (h : isLineB sp st = true) {ages : List Int} (hg : areAgesB st.length ages = true) : spansN sp st 0 ages ≠ [] := by
  obtain ⟨h1, h2⟩ := ages_all hg
  have := line_lens h
  intro e
  have := congrArg List.length e
  rw [spansN_len, List.length_nil] at this
  omega
def lineF (sp : List Int) (st : List ST) (ages : List Int) : Int × Int × Int := if isLineB sp st = true ∧ areAgesB st.length ages = true then (minF (spansN sp st 0 ages), minG (spansN sp st 0 ages), 0) else (0, 0, 2)
theorem isLineC_f (h1 : sp.length ≤ 1000000) (h2 : st.length ≤ 1000000) : channel_isLine.f sp st = some (isLineB sp st) := by unfold channel_isLine.f; rw [if_pos ⟨by omega, by omega⟩]
theorem areAgesC_f (sp : List Int) (st : List ST) {ages : List Int} (h1 : ages.length ≤ 1000000) : channel_areAges.f sp st ages = some (areAgesB st.length ages) := by unfold channel_areAges.f; rw [if_pos (by omega)]
theorem line_f (h1 : sp.length ≤ 1000000) (h2 : st.length ≤ 1000000) {ages : List Int} (h3 : ages.length ≤ 1000000) (K : Nat) (hK : 100 < K) : channel_Line.f K sp st ages = some (lineF sp st ages) := by
  unfold channel_Line.f lineF
  rw [isLineC_f h1 h2, areAgesC_f sp st h3]
  obtain ⟨K, rfl⟩ : ∃ k, K = k + 1 := ⟨K - 1, by omega⟩
  cases e1 : isLineB sp st with
  | false => simp [channel_Line.j0]
  | true =>
    cases e2 : areAgesB st.length ages with
    | false => simp [channel_Line.j0]
    | true =>
      have hl := line_lens e1
      obtain ⟨ha, -⟩ := ages_all e2
      have hm := spans_mem e1 e2
      have := line_from (spansN sp st 0 ages) (by rw [spansN_len]; omega) (spans_ne e1 e2) (spansN sp st 0 ages) 0 [] [] K rfl rfl rfl rfl rfl (by rw [spansN_len]; omega)
      rw [foldl_first _ (by simpa using spans_ne e1 e2) (by intro x hx; obtain ⟨s, hs, rfl⟩ := List.mem_map.mp hx; have := hm s hs; omega), foldl_first _ (by simpa using spans_ne e1 e2) (by intro x hx; obtain ⟨s, hs, rfl⟩ := List.mem_map.mp hx; have := hm s hs; omega)] at this
      simp only [Option.bind_some, if_true, Bool.not_true, channel_Line.j0, Bool.false_eq_true, if_false, spans_f e1 e2 K (by omega), and_self]
      exact this
theorem lineR_from (h : isLineB sp st = true) {ages : List Int} (hg : areAgesB st.length ages = true) : ∀ (rest : List Int) (j : Nat) (x y : Int) (K : Nat), ages.drop j = rest → rest.length + 103 < K →
    quinariaref02_Line.l0 K ages (j : Int) sp st x y = some (((spansN sp st j rest).map (·.f0)).foldl mn x, ((spansN sp st j rest).map (·.f1)).foldl mn y)
  | [], j, x, y, K + 1, hd, hK => by
    have : ages.length ≤ j := by simpa using hd
    obtain ⟨hl, -⟩ := ages_all hg
    unfold quinariaref02_Line.l0
    rw [if_neg (by omega)]
    rfl
  | a :: rest, j, x, y, K + 1, hd, hK => by
    obtain ⟨hj, hd1, -⟩ := drop_get hd
    obtain ⟨hl, hall⟩ := ages_all hg
    have hlen := line_lens h
    have ha := hall a (by have : a ∈ ages.drop j := by rw [hd]; exact List.mem_cons_self ..
                          exact List.mem_of_mem_drop this)
    unfold quinariaref02_Line.l0
    rw [if_pos (by omega), if_pos (by omega), if_pos (by omega), rd_drop hd, rcar_f h (numB_of (by omega)) ha K (by omega), Option.bind_some, w1 (by omega) (by omega)]
    have ih := lineR_from h hg rest (j + 1) (mn x (leastN sp st j a)) (mn y (mostN sp st j a)) K hd1 (by simp at hK; omega)
    rw [show ((j + 1 : Nat) : Int) = (j : Int) + 1 by omega] at ih
    exact ih
theorem lineR_f (h : isLineB sp st = true) {ages : List Int} (hg : areAgesB st.length ages = true) (K : Nat) (hK : 200 < K) : quinariaref02_Line.f K sp st ages = some (minF (spansN sp st 0 ages), minG (spansN sp st 0 ages)) := by
  unfold quinariaref02_Line.f
  have hl := line_lens h
  obtain ⟨ha, -⟩ := ages_all hg
  exact lineR_from h hg ages 0 _ _ K rfl (by omega)
theorem same_from (l : List Int) (hl : l.length ≤ 1000000) : ∀ (d j K : Nat), j + d = l.length → d < K → quinariaref02_Same.l0 K l l (j : Int) = some true
  | 0, j, K + 1, hj, hK => by
    unfold quinariaref02_Same.l0
    rw [if_neg (by omega)]
  | d + 1, j, K + 1, hj, hK => by
    unfold quinariaref02_Same.l0
    rw [if_pos (by omega), if_pos (by omega), if_pos (by omega), if_pos rfl, w1 (by omega) (by omega)]
    exact same_from l hl d (j + 1) K (by omega) (by omega)
theorem same_f (l : List Int) (hl : l.length ≤ 1000000) (K : Nat) (hK : l.length < K) : quinariaref02_Same.f K l l = some true := by
  unfold quinariaref02_Same.f
  rw [if_pos rfl]
  exact same_from l hl l.length 0 K (by omega) hK
end Go.Proofs.YtdmdahafiiggiaaGreatDoor.K
end
section
namespace Go.Proofs.YtdmdahafiiggiaaGreatDoor.K
open Go.RowKit Go.Proofs.YtdmdahafiiggiaaGreatDoorW.PrintWords Go.Proofs.YtdmdahafiiggiaaGreatDoorW.PrintLast Go.Proofs.YtdmdahafiiggiaaGreatDoorW.PrintMore
set_option linter.unusedVariables false
set_option linter.unusedSimpArgs false
variable {sp : List Int} {st : List ST}
def zS : SPN := z30
def okFrom (S : List SPN) (i : Nat) : Nat → Nat → Bool
 | 0, _ => true
 | m + 1, k => (k == i || decide ((S.getD i zS).f0 ≤ (S.getD k zS).f1)) && okFrom S i m (k + 1)
def narFrom (S : List SPN) : Nat → Nat → List Int
 | 0, _ => []
 | d + 1, i => if okFrom S i S.length 0 then (i : Int) :: narFrom S d (i + 1) else narFrom S d (i + 1)
theorem narFrom_len (S : List SPN) : ∀ (d i : Nat), (narFrom S d i).length ≤ d
 | 0, i => Nat.le_refl _
 | d + 1, i => by
  have := narFrom_len S d (i + 1)
  unfold narFrom
  split
  ·simp; omega
  ·omega
theorem rdT_at (S : List SPN) (j : Nat) : rd_T30 S (j : Int) = S.getD j zS := by simp [rd_T30, zS]
theorem narC_in (S : List SPN) (hS : S.length ≤ 1000) (d i B : Nat) (hi : i < S.length) (ih : ∀ (out : List Int) (K : Nat), out.length ≤ i + 1 → B ≤ K → channel_Narrowest.l0 K S out S (S.length : Int) ((i : Int) + 1) = some (out ++ narFrom S d (i + 1), 0)) (out : List Int) (ho : out.length ≤ i) :
  ∀ (m k K : Nat), k + m = S.length → B + m < K → channel_Narrowest.l1 K S out (i : Int) S (S.length : Int) (i : Int) S (S.length : Int) (k : Int) (S.getD i zS).f0 (S.getD i zS).f1 = some ((if okFrom S i m k then out ++ [(i : Int)] else out) ++ narFrom S d (i + 1), 0)
 | 0, k, K + 1, hk, hK => by
  unfold channel_Narrowest.l1
  rw [if_neg (by omega), if_pos (by omega), w1 (by omega) (by omega), ih _ K (by simp; omega) (by omega)]
  simp [okFrom]
 | m + 1, k, K + 1, hk, hK => by
  unfold channel_Narrowest.l1
  rw [if_pos (by omega), if_pos (by omega), if_pos (by omega), rdT_at]
  have ih1 := narC_in S hS d i B hi ih out ho m (k + 1) K (by omega) (by omega)
  rw [show ((k + 1 : Nat) : Int) = (k : Int) + 1 by omega] at ih1
  unfold okFrom
  by_cases e : k = i
  ·rw [if_pos (by omega), w1 (by omega) (by omega), ih1]
   simp [e]
  ·rw [if_neg (by omega)]
   by_cases h : (S.getD i zS).f0 ≤ (S.getD k zS).f1
   ·rw [if_neg (by omega), w1 (by omega) (by omega), ih1, decide_eq_true h]
    simp
   ·rw [if_pos (by omega), w1 (by omega) (by omega), ih _ K (by omega) (by omega), decide_eq_false h]
    simp [e]
theorem narC_from (S : List SPN) (hS : S.length ≤ 1000) : ∀ (d i : Nat) (out : List Int) (K : Nat), i + d = S.length → out.length ≤ i → d * (S.length + 3) < K → channel_Narrowest.l0 K S out S (S.length : Int) (i : Int) = some (out ++ narFrom S d i, 0)
 | 0, i, out, K + 1, hi, ho, hK => by
  unfold channel_Narrowest.l0
  rw [if_neg (by omega)]
  simp [narFrom]
 | d + 1, i, out, K + 1, hi, ho, hK => by
  unfold channel_Narrowest.l0
  rw [if_pos (by omega), if_pos (by omega), if_pos (by omega), rdT_at]
  have hB : d * (S.length + 3) + 1 + S.length < K := by rw [Nat.add_mul] at hK; omega
  have := narC_in S hS d i (d * (S.length + 3) + 1) (by omega) (fun out K h1 h2 => by
   have := narC_from S hS d (i + 1) out K (by omega) h1 (by omega)
   rw [show ((i + 1 : Nat) : Int) = (i : Int) + 1 by omega] at this
   exact this) out ho S.length 0 K (by omega) hB
  rw [show ((0 : Nat) : Int) = 0 from rfl] at this
  rw [this]
  simp only [narFrom]
  split <;> simp
def narN (sp : List Int) (st : List ST) (ages : List Int) : List Int := narFrom (spansN sp st 0 ages) ages.length 0
def narF (sp : List Int) (st : List ST) (ages : List Int) : List Int × Int := if isLineB sp st = true ∧ areAgesB st.length ages = true then (narN sp st ages, 0) else ([], 2)
theorem nar_f (h1 : sp.length ≤ 1000000) (h2 : st.length ≤ 1000000) {ages : List Int} (h3 : ages.length ≤ 1000000) (K : Nat) (hK : 200 < K) : channel_Narrowest.f K sp st ages = some (narF sp st ages) := by
 unfold channel_Narrowest.f narF
 rw [isLineC_f h1 h2, areAgesC_f sp st h3]
 obtain ⟨K, rfl⟩ : ∃ k, K = k + 1 := ⟨K - 1, by omega⟩
 cases e1 : isLineB sp st with
 | false => simp [channel_Narrowest.j0]
 | true =>
  cases e2 : areAgesB st.length ages with
  | false => simp [channel_Narrowest.j0]
  | true =>
   have hl := line_lens e1
   obtain ⟨ha, -⟩ := ages_all e2
   have hn : (spansN sp st 0 ages).length = ages.length := spansN_len ..
   have hmul : ages.length * (ages.length + 3) ≤ 8 * (8 + 3) := Nat.mul_le_mul (by omega) (by omega)
   have := narC_from (spansN sp st 0 ages) (by omega) ages.length 0 [] K (by omega) (Nat.le_refl _) (by rw [hn]; omega)
   simp only [Option.bind_some, if_true, Bool.not_true, channel_Narrowest.j0, Bool.false_eq_true, if_false, spans_f e1 e2 K (by omega), and_self]
   rw [show ((0 : Nat) : Int) = 0 from rfl] at this
   rw [this]
   rfl
theorem spansN_get (sp : List Int) (st : List ST) : ∀ (l : List Int) (j i : Nat), i < l.length → (spansN sp st j l).getD i zS = ⟨leastN sp st ((j + i : Nat) : Int) (l.getD i 0), mostN sp st ((j + i : Nat) : Int) (l.getD i 0)⟩
 | a :: l, j, 0, h => by simp [spansN]
 | a :: l, j, i + 1, h => by
  have := spansN_get sp st l (j + 1) i (by simpa using h)
  rw [show j + 1 + i = j + (i + 1) by omega] at this
  simp only [spansN, List.getD_cons_succ, this]
theorem span_at {ages : List Int} {i : Nat} (h : i < ages.length) : (spansN sp st 0 ages).getD i zS = ⟨leastN sp st (i : Int) (ages.getD i 0), mostN sp st (i : Int) (ages.getD i 0)⟩ := by
 have := spansN_get sp st ages 0 i h
 rwa [Nat.zero_add] at this
theorem narR_in (h : isLineB sp st = true) {ages : List Int} (hg : areAgesB st.length ages = true) (d i B : Nat) (hi : i < ages.length) (hB : 103 ≤ B) (ih : ∀ (out : List Int) (K : Nat), out.length ≤ i + 1 → B ≤ K → quinariaref02_Narrowest.l0 K ages out ((i : Int) + 1) sp st = some (out ++ narFrom (spansN sp st 0 ages) d (i + 1))) (out : List Int) (ho : out.length ≤ i) :
  ∀ (m k K : Nat) (is : Bool), k + m = ages.length → B + m < K → quinariaref02_Narrowest.l1 K ages out (i : Int) ((spansN sp st 0 ages).getD i zS).f0 is (k : Int) sp st = some ((if is && okFrom (spansN sp st 0 ages) i m k then out ++ [(i : Int)] else out) ++ narFrom (spansN sp st 0 ages) d (i + 1))
 | 0, k, K + 1, is, hk, hK => by
  obtain ⟨hl, hall⟩ := ages_all hg
  have hlen := line_lens h
  unfold quinariaref02_Narrowest.l1
  rw [if_neg (by omega)]
  cases is with
  | true => rw [if_pos rfl, if_pos (by omega), w1 (by omega) (by omega), ih _ K (by simp; omega) (by omega)]; simp [okFrom]
  | false => rw [if_neg (by simp), w1 (by omega) (by omega), ih _ K (by omega) (by omega)]; simp
 | m + 1, k, K + 1, is, hk, hK => by
  obtain ⟨hl, hall⟩ := ages_all hg
  have hlen := line_lens h
  unfold quinariaref02_Narrowest.l1
  rw [if_pos (by omega)]
  have ih1 := fun b => narR_in h hg d i B hi hB ih out ho m (k + 1) K b (by omega) (by omega)
  rw [show ((k + 1 : Nat) : Int) = (k : Int) + 1 by omega] at ih1
  cases is with
  | false => rw [if_neg (by simp), w1 (by omega) (by omega), ih1]; simp
  | true =>
   rw [if_pos rfl]
   simp only [okFrom]
   by_cases e : k = i
   ·rw [if_pos (by omega), w1 (by omega) (by omega), ih1]; simp [e]
   ·rw [if_neg (by omega), if_pos (by omega), if_pos (by omega), rd_at, rcar_f h (numB_of (by omega)) (hall _ (getD_mem 0 (by omega))) K (by omega), Option.bind_some, w1 (by omega) (by omega), ih1]
    have e1 : (k == i) = false := by simp [e]
    simp only [span_at (show k < ages.length by omega), e1, Bool.false_or, Bool.true_and]
theorem narR_from (h : isLineB sp st = true) {ages : List Int} (hg : areAgesB st.length ages = true) : ∀ (d i : Nat) (out : List Int) (K : Nat), i + d = ages.length → out.length ≤ i → d * (ages.length + 3) + 103 < K → quinariaref02_Narrowest.l0 K ages out (i : Int) sp st = some (out ++ narFrom (spansN sp st 0 ages) d i)
 | 0, i, out, K + 1, hi, ho, hK => by
  obtain ⟨hl, hall⟩ := ages_all hg
  unfold quinariaref02_Narrowest.l0
  rw [if_neg (by omega)]
  simp [narFrom]
 | d + 1, i, out, K + 1, hi, ho, hK => by
  obtain ⟨hl, hall⟩ := ages_all hg
  have hlen := line_lens h
  unfold quinariaref02_Narrowest.l0
  have hB : d * (ages.length + 3) + 104 + ages.length < K := by rw [Nat.add_mul] at hK; omega
  rw [if_pos (by omega), if_pos (by omega), if_pos (by omega), rd_at, rcar_f h (numB_of (by omega)) (hall _ (getD_mem 0 (by omega))) K (by omega), Option.bind_some]
  have := narR_in h hg d i (d * (ages.length + 3) + 104) (by omega) (by omega) (fun out K h1 h2 => by
   have := narR_from h hg d (i + 1) out K (by omega) h1 (by omega)
   rw [show ((i + 1 : Nat) : Int) = (i : Int) + 1 by omega] at this
   exact this) out ho ages.length 0 K true (by omega) hB
  rw [show ((0 : Nat) : Int) = 0 from rfl, span_at (show i < ages.length by omega)] at this
  rw [this]
  simp only [narFrom, spansN_len, Bool.true_and]
  split <;> simp
theorem narR_f (h : isLineB sp st = true) {ages : List Int} (hg : areAgesB st.length ages = true) (K : Nat) (hK : 300 < K) : quinariaref02_Narrowest.f K sp st ages = some (narN sp st ages) := by
 unfold quinariaref02_Narrowest.f
 have hl := line_lens h
 obtain ⟨ha, -⟩ := ages_all hg
 have hmul : ages.length * (ages.length + 3) ≤ 8 * (8 + 3) := Nat.mul_le_mul (by omega) (by omega)
 have := narR_from h hg ages.length 0 [] K (by omega) (Nat.le_refl _) (by omega)
 simpa [narN] using this
end Go.Proofs.YtdmdahafiiggiaaGreatDoor.K
end
section
namespace Go.Proofs.YtdmdahafiiggiaaGreatDoor.K
open Go.RowKit Go.Proofs.YtdmdahafiiggiaaGreatDoorW.PrintWords Go.Proofs.YtdmdahafiiggiaaGreatDoorW.PrintLast Go.Proofs.YtdmdahafiiggiaaGreatDoorW.PrintMore
set_option linter.unusedVariables false
set_option linter.unusedSimpArgs false
theorem ChannelLines_pure (sp : List Int) (st : List ST) (ages : List Int) : quinarialaw02_ChannelLines.f (500 + 1 + 1) sp st ages = some true := by
  unfold quinarialaw02_ChannelLines.f
  rw [short_f, Option.bind_some]
  cases hs : shortB sp st with
  | false => simp [quinarialaw02_ChannelLines.j0, quinarialaw02_known.f]
  | true =>
    have hl := short_lens hs
    by_cases h10 : (ages.length : Int) > 10
    · simp [quinarialaw02_ChannelLines.j0, quinarialaw02_known.f, h10]
    · have hA : ages.length ≤ 1000000 := by omega
      simp only [if_true, quinarialaw02_ChannelLines.j0, h10, decide_false, Bool.false_eq_true, if_false, line_f (sp := sp) (st := st) (by omega) (by omega) hA (500 + 1) (by omega), nar_f (sp := sp) (st := st) (by omega) (by omega) hA (500 + 1) (by omega), Option.bind_some, right_f (sp := sp) (st := st) (by omega) (by omega) (500 + 1) (by omega), ages_f (sp := sp) (st := st) ages hA (by omega) (500 + 1) (by omega)]
      cases e1 : isLineB sp st with
      | false => simp [quinarialaw02_ChannelLines.j1, lineF, narF, e1, quinarialaw02_known.f]
      | true =>
        cases e2 : areAgesB st.length ages with
        | false => simp [quinarialaw02_ChannelLines.j1, lineF, narF, e1, e2, quinarialaw02_known.f]
        | true =>
          have hn : (narN sp st ages).length ≤ ages.length := narFrom_len ..
          simp [quinarialaw02_ChannelLines.j1, lineF, narF, e1, e2, quinarialaw02_known.f, lineR_f e1 e2 500 (by omega), narR_f e1 e2 500 (by omega), same_f (narN sp st ages) (by omega) 500 (by omega)]
theorem ChannelLines_law (A0 A1 : Option Addr) (c0 c1 : Nat) (sp : List Int) (st : List ST) (A3 : Option Addr) (c3 : Nat) (ages : List Int) (w : World) (hT : TabW w) (h0 : At' (Kd.int .i64) w A0 sp.length c0 sp) (h1 : At' k32 w A1 st.length c1 st) (h3 : At' (Kd.int .i64) w A3 ages.length c3 ages) :
    Calls Tryz.prog 4 #[.agg #[.slice A0 sp.length c0, .slice A1 st.length c1], .slice A3 ages.length c3] w fun e w' => e = .returned (.bool true) ∧ Below w.heap.size w w' :=
  quinarialaw02_ChannelLines.calls _ A0 c0 sp A1 c1 st A3 c3 ages true w h0.c h0.le h1.c h1.le h3.c h3.le hT (ChannelLines_pure sp st ages)
end Go.Proofs.YtdmdahafiiggiaaGreatDoor.K
end
