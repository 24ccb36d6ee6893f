/- ChannelCarries: the walk of the law, and what it comes to. -/
import Derived.Test.YtdmdahafiiggiabGreatDoorB5
set_option linter.unusedVariables false
set_option linter.unusedSimpArgs false
section
namespace Go.Proofs.YtdmdahafiiggiabGreatDoor.K
open Go.RowKit Go.Proofs.YtdmdahafiiggiabGreatDoorW.PrintWords Go.Proofs.YtdmdahafiiggiabGreatDoorW.PrintLast Go.Proofs.YtdmdahafiiggiabGreatDoorW.PrintMore
def quinarialaw02_known.f (_ : Nat) : Option Bool := some true
theorem quinarialaw02_known.calls (k : Nat) (r : Bool) (w : World) (hT : TabW w) (h : quinarialaw02_known.f k  = some r) :
    Calls Tryz.prog 14 #[] w fun e w' => e = .returned (.bool r) ∧ Below w.heap.size w w' := by
  obtain rfl : true = r := Option.some.inj h
  exact known_any w hT
end Go.Proofs.YtdmdahafiiggiabGreatDoor.K
end
section
namespace Go.Proofs.YtdmdahafiiggiabGreatDoor.K
open Go.RowKit Go.Proofs.YtdmdahafiiggiabGreatDoorW.PrintWords Go.Proofs.YtdmdahafiiggiabGreatDoorW.PrintLast Go.Proofs.YtdmdahafiiggiabGreatDoorW.PrintMore
attribute [local go_sem] max2_int min2_int max_two min_two max_three min_three max_four min_four
set_option linter.unusedVariables false
set_option linter.unusedSimpArgs false
def channel_Check.f (l0_0 : List Int) (l0_1 : List (S66)) : Option (Int) := (channel_isLine.f l0_0 l0_1).bind fun t909 => (if t909 = true then (some 0) else (some 2))
set_option maxHeartbeats 8000000 in
set_option maxRecDepth 100000 in
theorem channel_Check.calls (A0_0 : Option Addr) (c0_0 : Nat) (l0_0 : List Int) (A0_1 : Option Addr) (c0_1 : Nat) (l0_1 : List (S66)) (r : Int) (w : World) (hr0_0 : Kd.C (Kd.int .i64) w A0_0 l0_0.length l0_0) (hc0_0 : l0_0.length ≤ c0_0) (hr0_1 : Kd.C k66 w A0_1 l0_1.length l0_1) (hc0_1 : l0_1.length ≤ c0_1) (h : channel_Check.f l0_0 l0_1 = some r) :
  Calls Tryz.prog 41 #[.agg #[.slice A0_0 l0_0.length c0_0, .slice A0_1 l0_1.length c0_1]] w fun e w' => e = .returned (.int .i64 r) ∧ Below w.heap.size w w' := by
 have hu60 := Tryz.underlying60
 have HR0_0 := Aside0.mk hr0_0
 have HC0_0 := Aside0.mk hc0_0
 clear hr0_0 hc0_0
 have HR0_1 := Aside0.mk hr0_1
 have HC0_1 := Aside0.mk hc0_1
 clear hr0_1 hc0_1
 have HB := Aside0.mk (Below.refl w.heap.size w)
 have H : ((channel_isLine.f l0_0 l0_1).bind fun t909 => (if t909 = true then (some 0) else (some 2))) = some r := h
 clear h
 replace H := Option.bind_eq_some_iff.mp H
 obtain ⟨t909, A20, H⟩ := H
 replace H : (if t909 = true then (some 0) else (some 2)) = some r := H
 have A2 := Aside0.mk A20
 clear A20
 by_cases c3 : t909 = true
 ·subst c3
  have H1 : (some 0) = some r := by rw [if_pos rfl] at H; exact H
  clear H
  have H := H1
  clear H1
  obtain rfl := Option.some.inj H
  go_enter Tryz.func41, Tryz.ntmps41
  go_wp2_with (first | ((with_reducible refine gate_dst (N := 1) rfl ?_); refine bxe 1 #[.slice A0_0 l0_0.length c0_0, .slice A0_1 l0_1.length c0_1] 60 ?_; intro gb908 hg w4 hbox hb; have n0_ := Aside0.mk (below_step uB hb); have n1_ := Aside0.mk (hbox); have n2_ := gw hg; have n3_ := gw hg; clear HB; have HB := n0_; have BK908 := n1_; have GW908 := n2_; have GE908 := n3_; clear n0_ n1_ n2_ n3_; clear hb hbox hg; obtain ⟨hcz5_0, hcz5_1⟩ := cz2 BK908.out; obtain ⟨hfz5_0, hfz5_1⟩ := fz2 BK908.out) | ((with_reducible refine gate_callee (f := 69) rfl ?_); refine goesL_ (some 4) rfl rfl Tryz.func69 (by kernel_rfl) rfl #[.agg #[.slice A0_0 l0_0.length c0_0, .slice A0_1 l0_1.length c0_1]] rfl uM ?_; (with_reducible refine (channel_isLine.calls _ _ l0_0 _ _ l0_1 true _ ?side1 ?side2 ?side3 ?side4 A2.out).mono ?_); (case side1 => repeat (first | exact (Kd.C_below HR0_0.out HB.out) | (with_reducible refine Kd.C_alloc ?_ _) | (with_reducible refine Kd.C_drewN ?_ _) | (with_reducible refine Kd.C_drew ?_))); (case side2 => exact HC0_0.out); (case side3 => repeat (first | exact (Kd.C_below HR0_1.out HB.out) | (with_reducible refine Kd.C_alloc ?_ _) | (with_reducible refine Kd.C_drewN ?_ _) | (with_reducible refine Kd.C_drew ?_))); (case side4 => exact HC0_1.out); rintro e w6 ⟨rfl, hb⟩; refine ⟨_, rfl, ?_⟩; replace BK908 := Aside0.mk (blk_below (uK BK908.out) hb); replace HB := Aside0.mk (below_step uB hb); (try clear hb); (try clear hb2); (try clear hk); (try clear hi)))
  go_ret
  exact ⟨uE, uB⟩
 ·replace c3 := Bool.eq_false_iff.mpr c3
  subst c3
  have H1 : (some 2) = some r := by rw [if_neg (show ¬ (false = true) by decide)] at H; exact H
  clear H
  have H := H1
  clear H1
  obtain rfl := Option.some.inj H
  go_enter Tryz.func41, Tryz.ntmps41
  go_wp2_with (first | ((with_reducible refine gate_dst (N := 1) rfl ?_); refine bxe 1 #[.slice A0_0 l0_0.length c0_0, .slice A0_1 l0_1.length c0_1] 60 ?_; intro gb908 hg w7 hbox hb; have n0_ := Aside0.mk (below_step uB hb); have n1_ := Aside0.mk (hbox); have n2_ := gw hg; have n3_ := gw hg; clear HB; have HB := n0_; have BK908 := n1_; have GW908 := n2_; have GE908 := n3_; clear n0_ n1_ n2_ n3_; clear hb hbox hg; obtain ⟨hcz8_0, hcz8_1⟩ := cz2 BK908.out; obtain ⟨hfz8_0, hfz8_1⟩ := fz2 BK908.out) | ((with_reducible refine gate_callee (f := 69) rfl ?_); refine goesL_ (some 4) rfl rfl Tryz.func69 (by kernel_rfl) rfl #[.agg #[.slice A0_0 l0_0.length c0_0, .slice A0_1 l0_1.length c0_1]] rfl uM ?_; (with_reducible refine (channel_isLine.calls _ _ l0_0 _ _ l0_1 false _ ?side1 ?side2 ?side3 ?side4 A2.out).mono ?_); (case side1 => repeat (first | exact (Kd.C_below HR0_0.out HB.out) | (with_reducible refine Kd.C_alloc ?_ _) | (with_reducible refine Kd.C_drewN ?_ _) | (with_reducible refine Kd.C_drew ?_))); (case side2 => exact HC0_0.out); (case side3 => repeat (first | exact (Kd.C_below HR0_1.out HB.out) | (with_reducible refine Kd.C_alloc ?_ _) | (with_reducible refine Kd.C_drewN ?_ _) | (with_reducible refine Kd.C_drew ?_))); (case side4 => exact HC0_1.out); rintro e w9 ⟨rfl, hb⟩; refine ⟨_, rfl, ?_⟩; replace BK908 := Aside0.mk (blk_below (uK BK908.out) hb); replace HB := Aside0.mk (below_step uB hb); (try clear hb); (try clear hb2); (try clear hk); (try clear hi)))
  go_ret
  exact ⟨uE, uB⟩
end Go.Proofs.YtdmdahafiiggiabGreatDoor.K
end
section
namespace Go.Proofs.YtdmdahafiiggiabGreatDoor.K
open Go.RowKit Go.Proofs.YtdmdahafiiggiabGreatDoorW.PrintWords Go.Proofs.YtdmdahafiiggiabGreatDoorW.PrintLast Go.Proofs.YtdmdahafiiggiabGreatDoorW.PrintMore
attribute [local go_sem] max2_int min2_int max_two min_two max_three min_three max_four min_four
set_option linter.unusedVariables false
set_option linter.unusedSimpArgs false
def quinariaref02_Carries.l0 : Nat → Int → Int → Int → List Int → List (S66) → Int → Int → Option (Int × Int)
 | 0, _, _, _, _, _, _, _ => none
 | k + 1, x1, x2, x8, x915000, x915001, x917000, x917001 => if 0 ≤ x1 then (if x1 < (x915001.length : Int) then (if x8 ≤ ((rd_T66 x915001 x1).f3.f1) then ((quinariaref02_Cups.f x915000 x915001 x1 x2 x8).bind fun t919 => (quinariaref02_Carries.l0 k x1 x2 (wrap64 (x8 + 1)) x915000 x915001 (mn x917000 t919) (mx x917001 t919))) else (some (x917000, x917001))) else (none)) else (none)
def quinariaref02_Carries.f (k : Nat) (l0_0 : List Int) (l0_1 : List (S66)) (a1 : Int) (a2 : Int) : Option (Int × Int) := if 0 ≤ a1 then (if a1 < (l0_1.length : Int) then (quinariaref02_Carries.l0 k a1 a2 ((rd_T66 l0_1 a1).f3.f0) l0_0 l0_1 10000001 (-1)) else (none)) else (none)
set_option maxHeartbeats 8000000 in
set_option maxRecDepth 100000 in
theorem quinariaref02_Carries.calls (k : Nat) (A0_0 : Option Addr) (c0_0 : Nat) (l0_0 : List Int) (A0_1 : Option Addr) (c0_1 : Nat) (l0_1 : List (S66)) (a1 : Int) (a2 : Int) (r1 : Int) (r2 : Int) (w : World) (hr0_0 : Kd.C (Kd.int .i64) w A0_0 l0_0.length l0_0) (hc0_0 : l0_0.length ≤ c0_0) (hr0_1 : Kd.C k66 w A0_1 l0_1.length l0_1) (hc0_1 : l0_1.length ≤ c0_1) (h : quinariaref02_Carries.f k l0_0 l0_1 a1 a2 = some (r1, r2)) :
  Calls Tryz.prog 43 #[.agg #[.slice A0_0 l0_0.length c0_0, .slice A0_1 l0_1.length c0_1], .int .i64 a1, .int .i64 a2] w fun e w' => e = .returned (.agg #[.int .i64 r1, .int .i64 r2]) ∧ Below w.heap.size w w' := by
 have hu60 := Tryz.underlying60
 have hu23 := Tryz.underlying23
 have HR0_0 := Aside0.mk hr0_0
 have HC0_0 := Aside0.mk hc0_0
 clear hr0_0 hc0_0
 have HR0_1 := Aside0.mk hr0_1
 have HC0_1 := Aside0.mk hc0_1
 clear hr0_1 hc0_1
 have HB := Aside0.mk (Below.refl w.heap.size w)
 have H : (if 0 ≤ a1 then (if a1 < (l0_1.length : Int) then (quinariaref02_Carries.l0 k a1 a2 ((rd_T66 l0_1 a1).f3.f0) l0_0 l0_1 10000001 (-1)) else (none)) else (none)) = some (r1, r2) := h
 clear h
 obtain ⟨c4, H⟩ := ifs H
 replace c4 := decide_eq_true c4
 obtain ⟨c5, H⟩ := ifs H
 replace c5 := decide_eq_true c5
 have H' := Aside0.mk H
 clear H
 go_enter Tryz.func43, Tryz.ntmps43
 go_wp2_with (first | ((with_reducible refine gate_dst (N := 3) rfl ?_); refine bxe 3 #[.slice A0_0 l0_0.length c0_0, .slice A0_1 l0_1.length c0_1] 60 ?_; intro gb914 hg w6 hbox hb; have n0_ := Aside0.mk (below_step uB hb); have n1_ := Aside0.mk (hbox); have n2_ := gw hg; have n3_ := gw hg; clear HB; have HB := n0_; have BK914 := n1_; have GW914 := n2_; have GE914 := n3_; clear n0_ n1_ n2_ n3_; clear hb hbox hg) | ((with_reducible refine gate_dst (N := 6) rfl ?_); refine bxe 6 #[.int .i64 0, .int .i64 0] 23 ?_; intro gb915 hg w7 hbox hb; have n0_ := Aside0.mk (blk_below (uK BK914.out) hb); have n1_ := Aside0.mk (below_step uB hb); have n2_ := Aside0.mk (hbox); have n3_ := gw hg; have n4_ := gw hg; have n5_ := nb BK914 hg; have n6_ := nc BK914 hg; clear BK914; clear HB; have BK914 := n0_; have HB := n1_; have BK915 := n2_; have GW915 := n3_; have GE915 := n4_; have NB914_915 := n5_; have NB915_914 := n6_; clear n0_ n1_ n2_ n3_ n4_ n5_ n6_; clear hb hbox hg) | ((with_reducible refine gate_dst (N := 7) rfl ?_); refine bxe 7 #[.int .i64 0, .int .i64 0] 23 ?_; intro gb916 hg w8 hbox hb; have n0_ := Aside0.mk (blk_below (uK BK914.out) hb); have n1_ := Aside0.mk (blk_below (uK BK915.out) hb); have n2_ := Aside0.mk (below_step uB hb); have n3_ := Aside0.mk (hbox); have n4_ := gw hg; have n5_ := gw hg; have n6_ := nb BK914 hg; have n7_ := nc BK914 hg; have n8_ := nb BK915 hg; have n9_ := nc BK915 hg; clear BK914; clear BK915; clear HB; have BK914 := n0_; have BK915 := n1_; have HB := n2_; have BK916 := n3_; have GW916 := n4_; have GE916 := n5_; have NB914_916 := n6_; have NB916_914 := n7_; have NB915_916 := n8_; have NB916_915 := n9_; clear n0_ n1_ n2_ n3_ n4_ n5_ n6_ n7_ n8_ n9_; clear hb hbox hg; have hnb9 := NB916_914.out; have hnc9 := NB914_916.out; have hnb10 := NB916_915.out; have hnc10 := NB915_916.out; obtain ⟨hcz11_0, hcz11_1⟩ := cz2 BK916.out; obtain ⟨hfz11_0, hfz11_1⟩ := fz2 BK916.out; have hnb12 := NB914_915.out; have hnc12 := NB915_914.out; obtain ⟨hcz13_0, hcz13_1⟩ := cz2 BK914.out; obtain ⟨hfz13_0, hfz13_1⟩ := fz2 BK914.out; have p917 : 0 ≤ (a1 : Int) := of_decide_eq_true (by first | (with_reducible assumption) | assumption); have q917 : a1 < (l0_1.length : Int) := of_decide_eq_true (by first | (with_reducible assumption) | assumption); obtain ⟨ad917, e917, hx917_0, hx917_1, hx917_2, hx917_3, hx917_4⟩ := at_T66 HR0_1.out a1 p917 q917; cases e917; have hn917_0 : ad917.block ≠ gb916 := Nat.ne_of_lt (Nat.lt_of_lt_of_le (bl1 hx917_0) GW916.out); have hn917_1 : ad917.block ≠ gb916 := Nat.ne_of_lt (Nat.lt_of_lt_of_le (bl1 hx917_0) GW916.out); replace hx917_0 := hcell HB.out hx917_0; replace hx917_1 := hcell HB.out hx917_1; replace hx917_2 := hcell HB.out hx917_2; replace hx917_3 := hcell HB.out hx917_3; replace hx917_4 := hcell HB.out hx917_4; replace hx917_0 := (cell_far (p := ⟨gb916, 0, none⟩) (fx hn917_0) (.int .i64 10000001)).trans hx917_0; replace hx917_1 := (cell_far (p := ⟨gb916, 0, none⟩) (fx hn917_0) (.int .i64 10000001)).trans hx917_1; replace hx917_2 := (cell_far (p := ⟨gb916, 0, none⟩) (fx hn917_0) (.int .i64 10000001)).trans hx917_2; replace hx917_3 := (cell_far (p := ⟨gb916, 0, none⟩) (fx hn917_0) (.int .i64 10000001)).trans hx917_3; replace hx917_4 := (cell_far (p := ⟨gb916, 0, none⟩) (fx hn917_0) (.int .i64 10000001)).trans hx917_4; replace hx917_0 := (cell_far (p := ⟨gb916, 1, none⟩) (fx hn917_1) (.int .i64 (-1))).trans hx917_0; replace hx917_1 := (cell_far (p := ⟨gb916, 1, none⟩) (fx hn917_1) (.int .i64 (-1))).trans hx917_1; replace hx917_2 := (cell_far (p := ⟨gb916, 1, none⟩) (fx hn917_1) (.int .i64 (-1))).trans hx917_2; replace hx917_3 := (cell_far (p := ⟨gb916, 1, none⟩) (fx hn917_1) (.int .i64 (-1))).trans hx917_3; replace hx917_4 := (cell_far (p := ⟨gb916, 1, none⟩) (fx hn917_1) (.int .i64 (-1))).trans hx917_4; clear hn917_0; clear hn917_1; replace p917 := eq_true p917; replace q917 := eq_true q917))
 go_loopg [8] k (fun kq v8 w' => ∃ (x8_1 : Int) (x917000_1 : Int) (x917001_1 : Int), v8 = .int .i64 x8_1 ∧ Aside0 (quinariaref02_Carries.l0 kq a1 a2 x8_1 l0_0 l0_1 x917000_1 x917001_1 = some (r1, r2)) ∧ Aside0 (kq ≤ k) ∧ Aside0 (w'.heap[gb914]? = some (.cells #[(.slice A0_0 l0_0.length c0_0), (.slice (some ad917) l0_1.length c0_1)] 60 (0, 0))) ∧ Aside0 (w'.heap[gb915]? = some (.cells #[.int .i64 0, .int .i64 0] 23 (0, 0))) ∧ Aside0 (w'.heap[gb916]? = some (.cells #[.int .i64 x917000_1, .int .i64 x917001_1] 23 (0, 0))) ∧ Aside0 (Below w.heap.size w w'))
 case atStart => exact ⟨((rd_T66 l0_1 a1).f3.f0), (10000001), ((-1)), u0, H', ⟨Nat.le_refl _⟩, ⟨by refine uK ?_; refine blk_far ?_ NB914_916.out _; refine uK ?_; refine blk_far ?_ NB914_916.out _; refine uK ?_; exact BK914.out⟩, ⟨by refine uK ?_; refine blk_far ?_ NB915_916.out _; refine uK ?_; refine blk_far ?_ NB915_916.out _; refine uK ?_; exact BK915.out⟩, ⟨by refine uK ?_; refine blk_put (cs := #[.int .i64 10000001, .int .i64 0]) ?_ 1 _ rfl; refine uK ?_; refine blk_put (cs := #[.int .i64 0, .int .i64 0]) ?_ 0 _ rfl; refine uK ?_; exact BK916.out⟩, ⟨uB⟩⟩
 case round =>
  clear H'
  try clear c1; try clear p2; try clear c4; try clear c4b0; try clear c5; try clear c5b0; try clear c9; try clear p9; try clear q9; try clear hx9; try clear c10; try clear c12; try clear hcz11_0; try clear hcz11_1; try clear hcz13_0; try clear hcz13_1; try clear hfz11_0; try clear hfz11_1; try clear hfz13_0; try clear hfz13_1; try clear hx917_0; try clear hx917_1; try clear hx917_2; try clear hx917_3; try clear hx917_4; try clear p917; try clear q917
  obtain ⟨x8_1, x917000_1, x917001_1, rfl, HA, HK1, BK914, BK915, BK916, HB⟩ := hrel
  cases gk with
  | zero => exact absurd HA.out (by simp [quinariaref02_Carries.l0])
  | succ k1 =>
   have H := HA.out
   clear HA
   simp only [quinariaref02_Carries.l0] at H
   obtain ⟨c14, H⟩ := ifs H
   replace c14 := decide_eq_true c14
   obtain ⟨c15, H⟩ := ifs H
   replace c15 := decide_eq_true c15
   by_cases c16 : x8_1 ≤ ((rd_T66 l0_1 a1).f3.f1)
   ·rw [if_pos c16] at H
    replace c16 := decide_eq_true c16
    replace H := Option.bind_eq_some_iff.mp H
    obtain ⟨t919, A170, H⟩ := H
    replace H : (quinariaref02_Carries.l0 k1 a1 a2 (wrap64 (x8_1 + 1)) l0_0 l0_1 (mn x917000_1 t919) (mx x917001_1 t919)) = some (r1, r2) := H
    have A17 := Aside0.mk A170
    clear A170
    obtain ⟨ji18, hji18⟩ : ∃ j_ : Int, (mn x917000_1 t919) = j_ := ⟨_, rfl⟩
    replace H : (quinariaref02_Carries.l0 k1 a1 a2 (wrap64 (x8_1 + 1)) l0_0 l0_1 ji18 (mx x917001_1 t919)) = some (r1, r2) := by first | (rw [hji18] at H; exact H) | (simp only [hji18] at H ⊢; exact H)
    (try rw [hji18] at A17)
    have hji18_ : (if t919 < x917000_1 then t919 else x917000_1) = ji18 := hji18
    obtain ⟨ji19, hji19⟩ : ∃ j_ : Int, (mx x917001_1 t919) = j_ := ⟨_, rfl⟩
    replace H : (quinariaref02_Carries.l0 k1 a1 a2 (wrap64 (x8_1 + 1)) l0_0 l0_1 ji18 ji19) = some (r1, r2) := by first | (rw [hji19] at H; exact H) | (simp only [hji19] at H ⊢; exact H)
    (try rw [hji19] at A17)
    have hji19_ : (if x917001_1 < t919 then t919 else x917001_1) = ji19 := hji19
    have H' := Aside0.mk H
    clear H
    have hnb20 := NB914_915.out
    have hnc20 := NB915_914.out
    have hnb21 := NB914_916.out
    have hnc21 := NB916_914.out
    obtain ⟨hcz22_0, hcz22_1⟩ := cz2 BK914.out
    obtain ⟨hfz22_0, hfz22_1⟩ := fz2 BK914.out
    have p918 : 0 ≤ (a1 : Int) := of_decide_eq_true (by first | (with_reducible assumption) | assumption)
    have q918 : a1 < (l0_1.length : Int) := of_decide_eq_true (by first | (with_reducible assumption) | assumption)
    obtain ⟨ad918, e918, hx918_0, hx918_1, hx918_2, hx918_3, hx918_4⟩ := at_T66 HR0_1.out a1 p918 q918
    obtain rfl : ad917 = ad918 := (by injection e918)
    replace hx918_0 := hcell HB.out hx918_0
    replace hx918_1 := hcell HB.out hx918_1
    replace hx918_2 := hcell HB.out hx918_2
    replace hx918_3 := hcell HB.out hx918_3
    replace hx918_4 := hcell HB.out hx918_4
    replace p918 := eq_true p918
    replace q918 := eq_true q918
    go_wp2_with (first | ((with_reducible refine gate_callee (f := 79) rfl ?_); refine goesL_ (some 33) rfl rfl Tryz.func79 (by kernel_rfl) rfl #[.agg #[.slice A0_0 l0_0.length c0_0, .slice (some ad917) l0_1.length c0_1], .int .i64 a1, .int .i64 a2, .int .i64 x8_1] rfl uM ?_; (with_reducible refine (quinariaref02_Cups.calls _ _ l0_0 _ _ l0_1 a1 a2 x8_1 t919 _ ?side1 ?side2 ?side3 ?side4 A17.out).mono ?_); (case side1 => repeat (first | exact (Kd.C_below HR0_0.out HB.out) | (with_reducible refine Kd.C_alloc ?_ _) | (with_reducible refine Kd.C_drewN ?_ _) | (with_reducible refine Kd.C_drew ?_))); (case side2 => exact HC0_0.out); (case side3 => repeat (first | exact (Kd.C_below HR0_1.out HB.out) | (with_reducible refine Kd.C_alloc ?_ _) | (with_reducible refine Kd.C_drewN ?_ _) | (with_reducible refine Kd.C_drew ?_))); (case side4 => exact HC0_1.out); rintro e w23 ⟨rfl, hb⟩; refine ⟨_, rfl, ?_⟩; replace BK914 := Aside0.mk (blk_below (uK BK914.out) hb); replace BK915 := Aside0.mk (blk_below (uK BK915.out) hb); replace BK916 := Aside0.mk (blk_below (uK BK916.out) hb); replace HB := Aside0.mk (below_step uB hb); (try clear hb); (try clear hb2); (try clear hk); (try clear hi); have hnb24 := NB916_915.out; have hnc24 := NB915_916.out; obtain ⟨hcz25_0, hcz25_1⟩ := cz2 BK916.out; obtain ⟨hfz25_0, hfz25_1⟩ := fz2 BK916.out))
    go_roundg k1
    case measure => have := HK1.out; omega
    case rel => exact ⟨(wrap64 (x8_1 + 1)), (ji18), (ji19), u0, H', ⟨by have := HK1.out; omega⟩, ⟨by refine uK ?_; refine blk_far ?_ NB914_916.out _; refine uK ?_; refine blk_far ?_ NB914_916.out _; refine uK ?_; exact BK914.out⟩, ⟨by refine uK ?_; refine blk_far ?_ NB915_916.out _; refine uK ?_; refine blk_far ?_ NB915_916.out _; refine uK ?_; exact BK915.out⟩, ⟨by refine uK ?_; refine blk_put (cs := #[.int .i64 ji18, .int .i64 x917001_1]) ?_ 1 _ rfl; refine uK ?_; refine blk_put (cs := #[.int .i64 x917000_1, .int .i64 x917001_1]) ?_ 0 _ rfl; refine uK ?_; exact BK916.out⟩, ⟨uB⟩⟩
   ·rw [if_neg c16] at H
    replace c16 := decide_eq_false c16
    simp only [Option.some.injEq, Prod.mk.injEq] at H
    obtain ⟨rfl, rfl⟩ := H
    have hnb26 := NB914_915.out
    have hnc26 := NB915_914.out
    have hnb27 := NB914_916.out
    have hnc27 := NB916_914.out
    obtain ⟨hcz28_0, hcz28_1⟩ := cz2 BK914.out
    obtain ⟨hfz28_0, hfz28_1⟩ := fz2 BK914.out
    have p918 : 0 ≤ (a1 : Int) := of_decide_eq_true (by first | (with_reducible assumption) | assumption)
    have q918 : a1 < (l0_1.length : Int) := of_decide_eq_true (by first | (with_reducible assumption) | assumption)
    obtain ⟨ad918, e918, hx918_0, hx918_1, hx918_2, hx918_3, hx918_4⟩ := at_T66 HR0_1.out a1 p918 q918
    obtain rfl : ad917 = ad918 := (by injection e918)
    replace hx918_0 := hcell HB.out hx918_0
    replace hx918_1 := hcell HB.out hx918_1
    replace hx918_2 := hcell HB.out hx918_2
    replace hx918_3 := hcell HB.out hx918_3
    replace hx918_4 := hcell HB.out hx918_4
    replace p918 := eq_true p918
    replace q918 := eq_true q918
    have hnb29 := NB916_915.out
    have hnc29 := NB915_916.out
    obtain ⟨hcz30_0, hcz30_1⟩ := cz2 BK916.out
    obtain ⟨hfz30_0, hfz30_1⟩ := fz2 BK916.out
    obtain ⟨hcz31_0, hcz31_1⟩ := cz2 BK915.out
    obtain ⟨hfz31_0, hfz31_1⟩ := fz2 BK915.out
    go_wp2
    refine bodyPost_ret (results_cell_row rfl _ _ gb915 23 #[.int .i64 x917000_1, .int .i64 x917001_1] (0, 0) _ rfl (by refine uK ?_; refine blk_put (cs := #[.int .i64 x917000_1, .int .i64 0]) ?_ 1 _ rfl; refine uK ?_; refine blk_put (cs := #[.int .i64 0, .int .i64 0]) ?_ 0 _ rfl; refine uK ?_; exact BK915.out) Tryz.underlying23 rfl (by kernel_rfl)) rfl ?_
    exact ⟨uE, uB⟩
end Go.Proofs.YtdmdahafiiggiabGreatDoor.K
end
section
namespace Go.Proofs.YtdmdahafiiggiabGreatDoor.K
open Go.RowKit Go.Proofs.YtdmdahafiiggiabGreatDoorW.PrintWords Go.Proofs.YtdmdahafiiggiabGreatDoorW.PrintLast Go.Proofs.YtdmdahafiiggiabGreatDoorW.PrintMore
attribute [local go_sem] max2_int min2_int max_two min_two max_three min_three max_four min_four
set_option linter.unusedVariables false
set_option linter.unusedSimpArgs false
attribute [local go_sem high] eqA23
mutual
def quinarialaw02_ChannelCarries.j0 : Nat → Int → Int → Int → Bool → List Int → List (S66) → Int → Int → Option (Bool)
 | 0, _, _, _, _, _, _, _, _ => none
 | k + 1, x1, x2, x9, x38, x921000, x921001, x928000, x928001 => if x38 = true then (some false) else ((quinariaref02_Right.f k x921000 x921001).bind fun t929 => (if t929 = true then ((quinariaref02_Number.f x921000 x921001 x1).bind fun t930 => (if t930 = true then ((quinariaref02_Age.f x2).bind fun t931 => (quinarialaw02_ChannelCarries.j1 k x1 x2 x9 (!t931) x921000 x921001 x928000 x928001)) else (quinarialaw02_ChannelCarries.j1 k x1 x2 x9 true x921000 x921001 x928000 x928001))) else (quinarialaw02_ChannelCarries.j1 k x1 x2 x9 true x921000 x921001 x928000 x928001)))
def quinarialaw02_ChannelCarries.j1 : Nat → Int → Int → Int → Bool → List Int → List (S66) → Int → Int → Option (Bool)
 | 0, _, _, _, _, _, _, _, _ => none
 | k + 1, x1, x2, x9, x52, x921000, x921001, x928000, x928001 => if x52 = true then (if x9 = 2 then (if (x928000 == 0 && (x928001 == 0)) = true then ((quinarialaw02_known.f k).bind fun t932 => (some t932)) else (some false)) else (some false)) else (if x9 = 0 then ((quinariaref02_Carries.f k x921000 x921001 x1 x2).bind fun bt933 => (if (x928000 == bt933.1 && (x928001 == bt933.2)) = true then ((quinarialaw02_known.f k).bind fun t935 => (some t935)) else (some false))) else (some false))
end
def quinarialaw02_ChannelCarries.f (k : Nat) (l0_0 : List Int) (l0_1 : List (S66)) (a1 : Int) (a2 : Int) : Option (Bool) := (quinarialaw02_short.f l0_0 l0_1).bind fun t921 => (if t921 = true then ((channel_Check.f l0_0 l0_1).bind fun t923 => ((channel_Carries.f k l0_0 l0_1 a1 a2).bind fun bt924 => ((quinariaref02_Right.f k l0_0 l0_1).bind fun t928 => (if t928 = true then (if t923 = 0 then (quinarialaw02_ChannelCarries.j0 k a1 a2 bt924.2.2 false l0_0 l0_1 bt924.1 bt924.2.1) else (quinarialaw02_ChannelCarries.j0 k a1 a2 bt924.2.2 true l0_0 l0_1 bt924.1 bt924.2.1)) else (quinarialaw02_ChannelCarries.j0 k a1 a2 bt924.2.2 (t923 != 2) l0_0 l0_1 bt924.1 bt924.2.1))))) else ((quinarialaw02_known.f k).bind fun t922 => (some t922)))
def quinarialaw02_ChannelCarries.T10 : Bool × List (List Nat × List Nat) := (true, [([], []), ([0], [0]), ([1], [1]), ([2], [2]), ([2], [2]), ([2], [2]), ([2], [2]), ([4, 5, 6, 2, 2], [2, 4, 5, 6]), ([3, 7, 2], [2, 3, 7]), ([2, 8], [2, 8]), ([9, 7], [9]), ([10, 10], [10]), ([10, 11], [10, 11]), ([12, 11, 0, 1, 2, 3, 4, 5, 6, 7, 8, 9, 10, 11, 12], [12])])
def quinarialaw02_ChannelCarries.B10 : List Nat := [0, 1, 3, 7, 7, 7, 7, 119, 255, 511, 1023, 2047, 4095, 8191]
theorem quinarialaw02_ChannelCarries.tab10 : rtab .any (opsOf Tryz.f10 10) = quinarialaw02_ChannelCarries.T10 := by kernel_rfl
theorem quinarialaw02_ChannelCarries.bits10 : waitsOk quinarialaw02_ChannelCarries.T10.2 quinarialaw02_ChannelCarries.B10 = true := by kernel_rfl
set_option maxHeartbeats 8000000 in
set_option maxRecDepth 100000 in
theorem quinarialaw02_ChannelCarries.calls (k : Nat) (A0_0 : Option Addr) (c0_0 : Nat) (l0_0 : List Int) (A0_1 : Option Addr) (c0_1 : Nat) (l0_1 : List (S66)) (a1 : Int) (a2 : Int) (r : Bool) (w : World) (hr0_0 : Kd.C (Kd.int .i64) w A0_0 l0_0.length l0_0) (hc0_0 : l0_0.length ≤ c0_0) (hr0_1 : Kd.C k66 w A0_1 l0_1.length l0_1) (hc0_1 : l0_1.length ≤ c0_1) (hT : TabW w) (h : quinarialaw02_ChannelCarries.f k l0_0 l0_1 a1 a2 = some r) :
  Calls Tryz.prog 10 #[.agg #[.slice A0_0 l0_0.length c0_0, .slice A0_1 l0_1.length c0_1], .int .i64 a1, .int .i64 a2] w fun e w' => e = .returned (.bool r) ∧ Below w.heap.size w w' := by
 have HT := Aside0.mk hT
 clear hT
 have hu60 := Tryz.underlying60
 have hu23 := Tryz.underlying23
 have HR0_0 := Aside0.mk hr0_0
 have HC0_0 := Aside0.mk hc0_0
 clear hr0_0 hc0_0
 have HR0_1 := Aside0.mk hr0_1
 have HC0_1 := Aside0.mk hc0_1
 clear hr0_1 hc0_1
 have HB := Aside0.mk (Below.refl w.heap.size w)
 have H : ((quinarialaw02_short.f l0_0 l0_1).bind fun t921 => (if t921 = true then ((channel_Check.f l0_0 l0_1).bind fun t923 => ((channel_Carries.f k l0_0 l0_1 a1 a2).bind fun bt924 => ((quinariaref02_Right.f k l0_0 l0_1).bind fun t928 => (if t928 = true then (if t923 = 0 then (quinarialaw02_ChannelCarries.j0 k a1 a2 bt924.2.2 false l0_0 l0_1 bt924.1 bt924.2.1) else (quinarialaw02_ChannelCarries.j0 k a1 a2 bt924.2.2 true l0_0 l0_1 bt924.1 bt924.2.1)) else (quinarialaw02_ChannelCarries.j0 k a1 a2 bt924.2.2 (t923 != 2) l0_0 l0_1 bt924.1 bt924.2.1))))) else ((quinarialaw02_known.f k).bind fun t922 => (some t922)))) = some r := h
 clear h
 replace H := Option.bind_eq_some_iff.mp H
 obtain ⟨t921, A40, H⟩ := H
 replace H : (if t921 = true then ((channel_Check.f l0_0 l0_1).bind fun t923 => ((channel_Carries.f k l0_0 l0_1 a1 a2).bind fun bt924 => ((quinariaref02_Right.f k l0_0 l0_1).bind fun t928 => (if t928 = true then (if t923 = 0 then (quinarialaw02_ChannelCarries.j0 k a1 a2 bt924.2.2 false l0_0 l0_1 bt924.1 bt924.2.1) else (quinarialaw02_ChannelCarries.j0 k a1 a2 bt924.2.2 true l0_0 l0_1 bt924.1 bt924.2.1)) else (quinarialaw02_ChannelCarries.j0 k a1 a2 bt924.2.2 (t923 != 2) l0_0 l0_1 bt924.1 bt924.2.1))))) else ((quinarialaw02_known.f k).bind fun t922 => (some t922))) = some r := H
 have A4 := Aside0.mk A40
 clear A40
 by_cases c5 : t921 = true
 ·as_aux_lemma =>
   subst c5
   have H1 : ((channel_Check.f l0_0 l0_1).bind fun t923 => ((channel_Carries.f k l0_0 l0_1 a1 a2).bind fun bt924 => ((quinariaref02_Right.f k l0_0 l0_1).bind fun t928 => (if t928 = true then (if t923 = 0 then (quinarialaw02_ChannelCarries.j0 k a1 a2 bt924.2.2 false l0_0 l0_1 bt924.1 bt924.2.1) else (quinarialaw02_ChannelCarries.j0 k a1 a2 bt924.2.2 true l0_0 l0_1 bt924.1 bt924.2.1)) else (quinarialaw02_ChannelCarries.j0 k a1 a2 bt924.2.2 (t923 != 2) l0_0 l0_1 bt924.1 bt924.2.1))))) = some r := by rw [if_pos rfl] at H; exact H
   clear H
   have H := H1
   clear H1
   replace H := Option.bind_eq_some_iff.mp H
   obtain ⟨t923, A60, H⟩ := H
   replace H : ((channel_Carries.f k l0_0 l0_1 a1 a2).bind fun bt924 => ((quinariaref02_Right.f k l0_0 l0_1).bind fun t928 => (if t928 = true then (if t923 = 0 then (quinarialaw02_ChannelCarries.j0 k a1 a2 bt924.2.2 false l0_0 l0_1 bt924.1 bt924.2.1) else (quinarialaw02_ChannelCarries.j0 k a1 a2 bt924.2.2 true l0_0 l0_1 bt924.1 bt924.2.1)) else (quinarialaw02_ChannelCarries.j0 k a1 a2 bt924.2.2 (t923 != 2) l0_0 l0_1 bt924.1 bt924.2.1)))) = some r := H
   have A6 := Aside0.mk A60
   clear A60
   replace H := Option.bind_eq_some_iff.mp H
   obtain ⟨⟨t924, t925, t926⟩, A70, H⟩ := H
   replace H : ((quinariaref02_Right.f k l0_0 l0_1).bind fun t928 => (if t928 = true then (if t923 = 0 then (quinarialaw02_ChannelCarries.j0 k a1 a2 t926 false l0_0 l0_1 t924 t925) else (quinarialaw02_ChannelCarries.j0 k a1 a2 t926 true l0_0 l0_1 t924 t925)) else (quinarialaw02_ChannelCarries.j0 k a1 a2 t926 (t923 != 2) l0_0 l0_1 t924 t925))) = some r := H
   have A7 := Aside0.mk A70
   clear A70
   replace H := Option.bind_eq_some_iff.mp H
   obtain ⟨t928, A80, H⟩ := H
   replace H : (if t928 = true then (if t923 = 0 then (quinarialaw02_ChannelCarries.j0 k a1 a2 t926 false l0_0 l0_1 t924 t925) else (quinarialaw02_ChannelCarries.j0 k a1 a2 t926 true l0_0 l0_1 t924 t925)) else (quinarialaw02_ChannelCarries.j0 k a1 a2 t926 (t923 != 2) l0_0 l0_1 t924 t925)) = some r := H
   have A8 := Aside0.mk A80
   clear A80
   have HC9 := Aside0.mk H
   clear H
   go_enter Tryz.func10, Tryz.ntmps10
   go_upto_region 6 with (first | ((with_reducible refine gate_dst (N := 3) rfl ?_); refine bxe 3 #[.slice A0_0 l0_0.length c0_0, .slice A0_1 l0_1.length c0_1] 60 ?_; intro gb920 hg w10 hbox hb; have n0_ := Aside0.mk (below_step uB hb); have n1_ := Aside0.mk (hbox); have n2_ := gw hg; have n3_ := gw hg; clear HB; have HB := n0_; have BK920 := n1_; have GW920 := n2_; have GE920 := n3_; clear n0_ n1_ n2_ n3_; clear hb hbox hg; obtain ⟨hcz11_0, hcz11_1⟩ := cz2 BK920.out; obtain ⟨hfz11_0, hfz11_1⟩ := fz2 BK920.out) | ((with_reducible refine gate_callee (f := 33) rfl ?_); refine goesL_ (some 12) rfl rfl Tryz.func33 (by kernel_rfl) rfl #[.agg #[.slice A0_0 l0_0.length c0_0, .slice A0_1 l0_1.length c0_1]] rfl uM ?_; (with_reducible refine (quinarialaw02_short.calls _ _ l0_0 _ _ l0_1 true _ ?side1 ?side2 ?side3 ?side4 A4.out).mono ?_); (case side1 => repeat (first | exact (Kd.C_below HR0_0.out HB.out) | (with_reducible refine Kd.C_alloc ?_ _) | (with_reducible refine Kd.C_drewN ?_ _) | (with_reducible refine Kd.C_drew ?_))); (case side2 => exact HC0_0.out); (case side3 => repeat (first | exact (Kd.C_below HR0_1.out HB.out) | (with_reducible refine Kd.C_alloc ?_ _) | (with_reducible refine Kd.C_drewN ?_ _) | (with_reducible refine Kd.C_drew ?_))); (case side4 => exact HC0_1.out); rintro e w12 ⟨rfl, hb⟩; refine ⟨_, rfl, ?_⟩; replace BK920 := Aside0.mk (blk_below (uK BK920.out) hb); replace HB := Aside0.mk (below_step uB hb); (try clear hb); (try clear hb2); (try clear hk); (try clear hi); obtain ⟨hcz13_0, hcz13_1⟩ := cz2 BK920.out; obtain ⟨hfz13_0, hfz13_1⟩ := fz2 BK920.out) | ((with_reducible refine gate_callee (f := 41) rfl ?_); refine goesL_ (some 16) rfl rfl Tryz.func41 (by kernel_rfl) rfl #[.agg #[.slice A0_0 l0_0.length c0_0, .slice A0_1 l0_1.length c0_1]] rfl uM ?_; (with_reducible refine (channel_Check.calls _ _ l0_0 _ _ l0_1 t923 _ ?side1 ?side2 ?side3 ?side4 A6.out).mono ?_); (case side1 => repeat (first | exact (Kd.C_below HR0_0.out HB.out) | (with_reducible refine Kd.C_alloc ?_ _) | (with_reducible refine Kd.C_drewN ?_ _) | (with_reducible refine Kd.C_drew ?_))); (case side2 => exact HC0_0.out); (case side3 => repeat (first | exact (Kd.C_below HR0_1.out HB.out) | (with_reducible refine Kd.C_alloc ?_ _) | (with_reducible refine Kd.C_drewN ?_ _) | (with_reducible refine Kd.C_drew ?_))); (case side4 => exact HC0_1.out); rintro e w14 ⟨rfl, hb⟩; refine ⟨_, rfl, ?_⟩; replace BK920 := Aside0.mk (blk_below (uK BK920.out) hb); replace HB := Aside0.mk (below_step uB hb); (try clear hb); (try clear hb2); (try clear hk); (try clear hi); obtain ⟨hcz15_0, hcz15_1⟩ := cz2 BK920.out; obtain ⟨hfz15_0, hfz15_1⟩ := fz2 BK920.out) | ((with_reducible refine gate_callee (f := 38) rfl ?_); refine goesL_ (some 21) rfl rfl Tryz.func38 (by kernel_rfl) rfl #[.agg #[.slice A0_0 l0_0.length c0_0, .slice A0_1 l0_1.length c0_1], .int .i64 a1, .int .i64 a2] rfl uM ?_; (with_reducible refine (channel_Carries.calls k _ _ l0_0 _ _ l0_1 a1 a2 t924 t925 t926 _ ?side1 ?side2 ?side3 ?side4 A7.out).mono ?_); (case side1 => repeat (first | exact (Kd.C_below HR0_0.out HB.out) | (with_reducible refine Kd.C_alloc ?_ _) | (with_reducible refine Kd.C_drewN ?_ _) | (with_reducible refine Kd.C_drew ?_))); (case side2 => exact HC0_0.out); (case side3 => repeat (first | exact (Kd.C_below HR0_1.out HB.out) | (with_reducible refine Kd.C_alloc ?_ _) | (with_reducible refine Kd.C_drewN ?_ _) | (with_reducible refine Kd.C_drew ?_))); (case side4 => exact HC0_1.out); rintro e w16 ⟨rfl, hb⟩; refine ⟨_, rfl, ?_⟩; replace BK920 := Aside0.mk (blk_below (uK BK920.out) hb); replace HB := Aside0.mk (below_step uB hb); (try clear hb); (try clear hb2); (try clear hk); (try clear hi)) | ((with_reducible refine gate_dst (N := 8) rfl ?_); refine bxe 8 #[.int .i64 0, .int .i64 0] 23 ?_; intro gb927 hg w17 hbox hb; have n0_ := Aside0.mk (blk_below (uK BK920.out) hb); have n1_ := Aside0.mk (below_step uB hb); have n2_ := Aside0.mk (hbox); have n3_ := gw hg; have n4_ := gw hg; have n5_ := nb BK920 hg; have n6_ := nc BK920 hg; clear BK920; clear HB; have BK920 := n0_; have HB := n1_; have BK927 := n2_; have GW927 := n3_; have GE927 := n4_; have NB920_927 := n5_; have NB927_920 := n6_; clear n0_ n1_ n2_ n3_ n4_ n5_ n6_; clear hb hbox hg; have hnb18 := NB927_920.out; have hnc18 := NB920_927.out; obtain ⟨hcz19_0, hcz19_1⟩ := cz2 BK927.out; obtain ⟨hfz19_0, hfz19_1⟩ := fz2 BK927.out; obtain ⟨hcz20_0, hcz20_1⟩ := cz2 BK920.out; obtain ⟨hfz20_0, hfz20_1⟩ := fz2 BK920.out) | ((with_reducible refine gate_callee (f := 34) rfl ?_); refine goesL_ (some 25) rfl rfl Tryz.func34 (by kernel_rfl) rfl #[.agg #[.slice A0_0 l0_0.length c0_0, .slice A0_1 l0_1.length c0_1]] rfl uM ?_; (with_reducible refine (quinariaref02_Right.calls k _ _ l0_0 _ _ l0_1 t928 _ ?side1 ?side2 ?side3 ?side4 A8.out).mono ?_); (case side1 => exact Kd.C_below HR0_0.out uB); (case side2 => exact HC0_0.out); (case side3 => exact Kd.C_below HR0_1.out uB); (case side4 => exact HC0_1.out); rintro e w21 ⟨rfl, hb⟩; refine ⟨_, rfl, ?_⟩; replace BK920 := Aside0.mk (blk_below (g := gb920) (o := .cells #[.slice A0_0 l0_0.length c0_0, .slice A0_1 l0_1.length c0_1] 60 (0, 0)) (by refine uK ?_; refine blk_far ?_ NB920_927.out _; refine uK ?_; refine blk_far ?_ NB920_927.out _; refine uK ?_; exact BK920.out) hb); replace BK927 := Aside0.mk (blk_below (g := gb927) (o := .cells #[.int .i64 t924, .int .i64 t925] 23 (0, 0)) (by refine uK ?_; refine blk_put (cs := #[.int .i64 t924, .int .i64 0]) ?_ 1 _ rfl; refine uK ?_; refine blk_put (cs := #[.int .i64 0, .int .i64 0]) ?_ 0 _ rfl; refine uK ?_; exact BK927.out) hb); replace HB := Aside0.mk (below_step uB hb); (try clear hb); (try clear hb2); (try clear hk); (try clear hi)))
   (try simp only [Act.put, List.setIfInBounds_toArray, List.set_cons_zero, List.set_cons_succ])
   go_cut [38] (fun v38 wc => ∃ (kq : Nat) (x38_8 : Bool), v38 = .bool x38_8 ∧ Aside0 (quinarialaw02_ChannelCarries.j0 kq a1 a2 t926 x38_8 l0_0 l0_1 t924 t925 = some r) ∧ Aside0 (kq ≤ k) ∧ Aside0 (wc.heap[gb920]? = some (.cells #[(.slice A0_0 l0_0.length c0_0), (.slice A0_1 l0_1.length c0_1)] 60 (0, 0))) ∧ Aside0 (wc.heap[gb927]? = some (.cells #[.int .i64 t924, .int .i64 t925] 23 (0, 0))) ∧ Aside0 (Below w.heap.size w wc))
   case first =>
    as_aux_lemma =>
     have H := HC9.out
     clear HC9
     by_cases c22 : t928 = true
     ·subst c22
      have H1 : (if t923 = 0 then (quinarialaw02_ChannelCarries.j0 k a1 a2 t926 false l0_0 l0_1 t924 t925) else (quinarialaw02_ChannelCarries.j0 k a1 a2 t926 true l0_0 l0_1 t924 t925)) = some r := by rw [if_pos rfl] at H; exact H
      clear H
      have H := H1
      clear H1
      by_cases c23 : t923 = 0
      ·rw [if_pos c23] at H
       have c23b0 : (t923 == 0) = true := beq_iff_eq.mpr c23
       have c23b1 : (t923 != 0) = false := bne_eq_false_iff_eq.mpr c23
       clear c23
       (first | rw [c23b0] | (simp only [i64_w, i32_w]; rw [c23b0]) | skip)
       have H' := Aside0.mk H
       clear H
       go_wp2
       go_meet
       case rel => exact ⟨_, (false), u0, H', ⟨u1⟩, ⟨uK BK920.out⟩, ⟨uK BK927.out⟩, ⟨uB⟩⟩
      ·rw [if_neg c23] at H
       have c23b0 : (t923 == 0) = false := beq_eq_false_iff_ne.mpr c23
       have c23b1 : (t923 != 0) = true := bne_iff_ne.mpr c23
       (first | rw [c23b0] | (simp only [i64_w, i32_w]; rw [c23b0]) | skip)
       have H' := Aside0.mk H
       clear H
       go_wp2
       go_meet
       case rel => exact ⟨_, (true), u0, H', ⟨u1⟩, ⟨uK BK920.out⟩, ⟨uK BK927.out⟩, ⟨uB⟩⟩
     ·replace c22 := Bool.eq_false_iff.mpr c22
      subst c22
      have H1 : (quinarialaw02_ChannelCarries.j0 k a1 a2 t926 (t923 != 2) l0_0 l0_1 t924 t925) = some r := by rw [if_neg (show ¬ (false = true) by decide)] at H; exact H
      clear H
      have H := H1
      clear H1
      have H' := Aside0.mk H
      clear H
      go_wp2
      go_meet
      case rel => exact ⟨_, ((t923 != 2)), u0, H', ⟨u1⟩, ⟨uK BK920.out⟩, ⟨uK BK927.out⟩, ⟨uB⟩⟩
   case rest =>
    as_aux_lemma =>
     clear HC9; try clear c1; try clear c2; try clear p2; try clear c3; try clear c4; try clear c5; try clear c10; try clear c18; try clear c22; try clear c23; try clear c23b0; try clear c23b1; try clear hcz11_0; try clear hcz11_1; try clear hcz13_0; try clear hcz13_1; try clear hcz15_0; try clear hcz15_1; try clear hcz19_0; try clear hcz19_1; try clear hcz20_0; try clear hcz20_1; try clear hfz11_0; try clear hfz11_1; try clear hfz13_0; try clear hfz13_1; try clear hfz15_0; try clear hfz15_1; try clear hfz19_0; try clear hfz19_1; try clear hfz20_0; try clear hfz20_1
     obtain ⟨kq, x38_8, rfl, HA, HJ8, BK920, BK927, HB⟩ := hcut
     cases kq with
     | zero => exact absurd HA.out (by simp [quinarialaw02_ChannelCarries.j0])
     | succ kj8 =>
      have H := HA.out
      clear HA
      simp only [quinarialaw02_ChannelCarries.j0] at H
      by_cases c24 : x38_8 = true
      ·subst c24
       have H1 : (some false) = some r := by rw [if_pos rfl] at H; exact H
       clear H
       have H := H1
       clear H1
       obtain rfl := Option.some.inj H
       go_wp2
       go_ret
       exact ⟨uE, uB⟩
      ·as_aux_lemma =>
        replace c24 := Bool.eq_false_iff.mpr c24
        subst c24
        have H1 : ((quinariaref02_Right.f kj8 l0_0 l0_1).bind fun t929 => (if t929 = true then ((quinariaref02_Number.f l0_0 l0_1 a1).bind fun t930 => (if t930 = true then ((quinariaref02_Age.f a2).bind fun t931 => (quinarialaw02_ChannelCarries.j1 kj8 a1 a2 t926 (!t931) l0_0 l0_1 t924 t925)) else (quinarialaw02_ChannelCarries.j1 kj8 a1 a2 t926 true l0_0 l0_1 t924 t925))) else (quinarialaw02_ChannelCarries.j1 kj8 a1 a2 t926 true l0_0 l0_1 t924 t925))) = some r := by rw [if_neg (show ¬ (false = true) by decide)] at H; exact H
        clear H
        have H := H1
        clear H1
        have HC25 := Aside0.mk H
        clear H
        go_upto_region 8 with (fail)
        go_cut [52] (fun v52 wc => ∃ (kq : Nat) (x52_24 : Bool), v52 = .bool x52_24 ∧ Aside0 (quinarialaw02_ChannelCarries.j1 kq a1 a2 t926 x52_24 l0_0 l0_1 t924 t925 = some r) ∧ Aside0 (kq ≤ kj8) ∧ Aside0 (wc.heap[gb920]? = some (.cells #[(.slice A0_0 l0_0.length c0_0), (.slice A0_1 l0_1.length c0_1)] 60 (0, 0))) ∧ Aside0 (wc.heap[gb927]? = some (.cells #[.int .i64 t924, .int .i64 t925] 23 (0, 0))) ∧ Aside0 (Below w.heap.size w wc))
        case first =>
         as_aux_lemma =>
          have H := HC25.out
          clear HC25
          replace H := Option.bind_eq_some_iff.mp H
          obtain ⟨t929, A260, H⟩ := H
          replace H : (if t929 = true then ((quinariaref02_Number.f l0_0 l0_1 a1).bind fun t930 => (if t930 = true then ((quinariaref02_Age.f a2).bind fun t931 => (quinarialaw02_ChannelCarries.j1 kj8 a1 a2 t926 (!t931) l0_0 l0_1 t924 t925)) else (quinarialaw02_ChannelCarries.j1 kj8 a1 a2 t926 true l0_0 l0_1 t924 t925))) else (quinarialaw02_ChannelCarries.j1 kj8 a1 a2 t926 true l0_0 l0_1 t924 t925)) = some r := H
          have A26 := Aside0.mk A260
          clear A260
          by_cases c27 : t929 = true
          ·subst c27
           have H1 : ((quinariaref02_Number.f l0_0 l0_1 a1).bind fun t930 => (if t930 = true then ((quinariaref02_Age.f a2).bind fun t931 => (quinarialaw02_ChannelCarries.j1 kj8 a1 a2 t926 (!t931) l0_0 l0_1 t924 t925)) else (quinarialaw02_ChannelCarries.j1 kj8 a1 a2 t926 true l0_0 l0_1 t924 t925))) = some r := by rw [if_pos rfl] at H; exact H
           clear H
           have H := H1
           clear H1
           replace H := Option.bind_eq_some_iff.mp H
           obtain ⟨t930, A280, H⟩ := H
           replace H : (if t930 = true then ((quinariaref02_Age.f a2).bind fun t931 => (quinarialaw02_ChannelCarries.j1 kj8 a1 a2 t926 (!t931) l0_0 l0_1 t924 t925)) else (quinarialaw02_ChannelCarries.j1 kj8 a1 a2 t926 true l0_0 l0_1 t924 t925)) = some r := H
           have A28 := Aside0.mk A280
           clear A280
           by_cases c29 : t930 = true
           ·subst c29
            have H1 : ((quinariaref02_Age.f a2).bind fun t931 => (quinarialaw02_ChannelCarries.j1 kj8 a1 a2 t926 (!t931) l0_0 l0_1 t924 t925)) = some r := by rw [if_pos rfl] at H; exact H
            clear H
            have H := H1
            clear H1
            replace H := Option.bind_eq_some_iff.mp H
            obtain ⟨t931, A300, H⟩ := H
            replace H : (quinarialaw02_ChannelCarries.j1 kj8 a1 a2 t926 (!t931) l0_0 l0_1 t924 t925) = some r := H
            have A30 := Aside0.mk A300
            clear A300
            have H' := Aside0.mk H
            clear H
            have hnb31 := NB920_927.out
            have hnc31 := NB927_920.out
            obtain ⟨hcz32_0, hcz32_1⟩ := cz2 BK920.out
            obtain ⟨hfz32_0, hfz32_1⟩ := fz2 BK920.out
            go_wp2_with (first | ((with_reducible refine gate_callee (f := 34) rfl ?_); refine goesL_ (some 40) rfl rfl Tryz.func34 (by kernel_rfl) rfl #[.agg #[.slice A0_0 l0_0.length c0_0, .slice A0_1 l0_1.length c0_1]] rfl uM ?_; (with_reducible refine (quinariaref02_Right.calls kj8 _ _ l0_0 _ _ l0_1 true _ ?side1 ?side2 ?side3 ?side4 A26.out).mono ?_); (case side1 => repeat (first | exact (Kd.C_below HR0_0.out HB.out) | (with_reducible refine Kd.C_alloc ?_ _) | (with_reducible refine Kd.C_drewN ?_ _) | (with_reducible refine Kd.C_drew ?_))); (case side2 => exact HC0_0.out); (case side3 => repeat (first | exact (Kd.C_below HR0_1.out HB.out) | (with_reducible refine Kd.C_alloc ?_ _) | (with_reducible refine Kd.C_drewN ?_ _) | (with_reducible refine Kd.C_drew ?_))); (case side4 => exact HC0_1.out); rintro e w33 ⟨rfl, hb⟩; refine ⟨_, rfl, ?_⟩; replace BK920 := Aside0.mk (blk_below (uK BK920.out) hb); replace BK927 := Aside0.mk (blk_below (uK BK927.out) hb); replace HB := Aside0.mk (below_step uB hb); (try clear hb); (try clear hb2); (try clear hk); (try clear hi); obtain ⟨hcz34_0, hcz34_1⟩ := cz2 BK920.out; obtain ⟨hfz34_0, hfz34_1⟩ := fz2 BK920.out) | (go_at_call 35; (with_reducible refine (quinariaref02_Number.calls _ _ l0_0 _ _ l0_1 a1 true _ ?side1 ?side2 ?side3 ?side4 A28.out).mono ?_); (case side1 => repeat (first | exact (Kd.C_below HR0_0.out HB.out) | (with_reducible refine Kd.C_alloc ?_ _) | (with_reducible refine Kd.C_drewN ?_ _) | (with_reducible refine Kd.C_drew ?_))); (case side2 => exact HC0_0.out); (case side3 => repeat (first | exact (Kd.C_below HR0_1.out HB.out) | (with_reducible refine Kd.C_alloc ?_ _) | (with_reducible refine Kd.C_drewN ?_ _) | (with_reducible refine Kd.C_drew ?_))); (case side4 => exact HC0_1.out); rintro e w35 ⟨rfl, hb⟩; replace BK920 := Aside0.mk (blk_below (uK BK920.out) hb); replace BK927 := Aside0.mk (blk_below (uK BK927.out) hb); replace HB := Aside0.mk (below_step uB hb); (try clear hb); (try clear hb2); (try clear hk); (try clear hi)) | (go_at_call 42; (with_reducible refine (quinariaref02_Age.calls a2 t931 _ A30.out).mono ?_); rintro e w' ⟨rfl, ⟨nd, rfl⟩⟩))
            go_meet
            case rel => exact ⟨_, (!t931), u0, H', ⟨by have := HJ8.out; first | omega | exact Nat.le_refl _⟩, ⟨uK BK920.out⟩, ⟨uK BK927.out⟩, ⟨uB⟩⟩
           ·replace c29 := Bool.eq_false_iff.mpr c29
            subst c29
            have H1 : (quinarialaw02_ChannelCarries.j1 kj8 a1 a2 t926 true l0_0 l0_1 t924 t925) = some r := by rw [if_neg (show ¬ (false = true) by decide)] at H; exact H
            clear H
            have H := H1
            clear H1
            have H' := Aside0.mk H
            clear H
            have hnb36 := NB920_927.out
            have hnc36 := NB927_920.out
            obtain ⟨hcz37_0, hcz37_1⟩ := cz2 BK920.out
            obtain ⟨hfz37_0, hfz37_1⟩ := fz2 BK920.out
            go_wp2_with (first | ((with_reducible refine gate_callee (f := 34) rfl ?_); refine goesL_ (some 40) rfl rfl Tryz.func34 (by kernel_rfl) rfl #[.agg #[.slice A0_0 l0_0.length c0_0, .slice A0_1 l0_1.length c0_1]] rfl uM ?_; (with_reducible refine (quinariaref02_Right.calls kj8 _ _ l0_0 _ _ l0_1 true _ ?side1 ?side2 ?side3 ?side4 A26.out).mono ?_); (case side1 => repeat (first | exact (Kd.C_below HR0_0.out HB.out) | (with_reducible refine Kd.C_alloc ?_ _) | (with_reducible refine Kd.C_drewN ?_ _) | (with_reducible refine Kd.C_drew ?_))); (case side2 => exact HC0_0.out); (case side3 => repeat (first | exact (Kd.C_below HR0_1.out HB.out) | (with_reducible refine Kd.C_alloc ?_ _) | (with_reducible refine Kd.C_drewN ?_ _) | (with_reducible refine Kd.C_drew ?_))); (case side4 => exact HC0_1.out); rintro e w38 ⟨rfl, hb⟩; refine ⟨_, rfl, ?_⟩; replace BK920 := Aside0.mk (blk_below (uK BK920.out) hb); replace BK927 := Aside0.mk (blk_below (uK BK927.out) hb); replace HB := Aside0.mk (below_step uB hb); (try clear hb); (try clear hb2); (try clear hk); (try clear hi); obtain ⟨hcz39_0, hcz39_1⟩ := cz2 BK920.out; obtain ⟨hfz39_0, hfz39_1⟩ := fz2 BK920.out) | (go_at_call 35; (with_reducible refine (quinariaref02_Number.calls _ _ l0_0 _ _ l0_1 a1 false _ ?side1 ?side2 ?side3 ?side4 A28.out).mono ?_); (case side1 => repeat (first | exact (Kd.C_below HR0_0.out HB.out) | (with_reducible refine Kd.C_alloc ?_ _) | (with_reducible refine Kd.C_drewN ?_ _) | (with_reducible refine Kd.C_drew ?_))); (case side2 => exact HC0_0.out); (case side3 => repeat (first | exact (Kd.C_below HR0_1.out HB.out) | (with_reducible refine Kd.C_alloc ?_ _) | (with_reducible refine Kd.C_drewN ?_ _) | (with_reducible refine Kd.C_drew ?_))); (case side4 => exact HC0_1.out); rintro e w40 ⟨rfl, hb⟩; replace BK920 := Aside0.mk (blk_below (uK BK920.out) hb); replace BK927 := Aside0.mk (blk_below (uK BK927.out) hb); replace HB := Aside0.mk (below_step uB hb); (try clear hb); (try clear hb2); (try clear hk); (try clear hi)))
            go_meet
            case rel => exact ⟨_, (true), u0, H', ⟨by have := HJ8.out; first | omega | exact Nat.le_refl _⟩, ⟨uK BK920.out⟩, ⟨uK BK927.out⟩, ⟨uB⟩⟩
          ·replace c27 := Bool.eq_false_iff.mpr c27
           subst c27
           have H1 : (quinarialaw02_ChannelCarries.j1 kj8 a1 a2 t926 true l0_0 l0_1 t924 t925) = some r := by rw [if_neg (show ¬ (false = true) by decide)] at H; exact H
           clear H
           have H := H1
           clear H1
           have H' := Aside0.mk H
           clear H
           have hnb41 := NB920_927.out
           have hnc41 := NB927_920.out
           obtain ⟨hcz42_0, hcz42_1⟩ := cz2 BK920.out
           obtain ⟨hfz42_0, hfz42_1⟩ := fz2 BK920.out
           go_wp2_with (first | ((with_reducible refine gate_callee (f := 34) rfl ?_); refine goesL_ (some 40) rfl rfl Tryz.func34 (by kernel_rfl) rfl #[.agg #[.slice A0_0 l0_0.length c0_0, .slice A0_1 l0_1.length c0_1]] rfl uM ?_; (with_reducible refine (quinariaref02_Right.calls kj8 _ _ l0_0 _ _ l0_1 false _ ?side1 ?side2 ?side3 ?side4 A26.out).mono ?_); (case side1 => repeat (first | exact (Kd.C_below HR0_0.out HB.out) | (with_reducible refine Kd.C_alloc ?_ _) | (with_reducible refine Kd.C_drewN ?_ _) | (with_reducible refine Kd.C_drew ?_))); (case side2 => exact HC0_0.out); (case side3 => repeat (first | exact (Kd.C_below HR0_1.out HB.out) | (with_reducible refine Kd.C_alloc ?_ _) | (with_reducible refine Kd.C_drewN ?_ _) | (with_reducible refine Kd.C_drew ?_))); (case side4 => exact HC0_1.out); rintro e w43 ⟨rfl, hb⟩; refine ⟨_, rfl, ?_⟩; replace BK920 := Aside0.mk (blk_below (uK BK920.out) hb); replace BK927 := Aside0.mk (blk_below (uK BK927.out) hb); replace HB := Aside0.mk (below_step uB hb); (try clear hb); (try clear hb2); (try clear hk); (try clear hi)))
           go_meet
           case rel => exact ⟨_, (true), u0, H', ⟨by have := HJ8.out; first | omega | exact Nat.le_refl _⟩, ⟨uK BK920.out⟩, ⟨uK BK927.out⟩, ⟨uB⟩⟩
        case rest =>
         as_aux_lemma =>
          clear HC25; try clear c1; try clear c2; try clear p2; try clear c3; try clear c4; try clear c5; try clear c10; try clear c18; try clear c22; try clear c23; try clear c23b0; try clear c23b1; try clear c24; try clear c27; try clear c29; try clear c31; try clear c33; try clear c34; try clear c36; try clear c38; try clear c41; try clear hcz11_0; try clear hcz11_1; try clear hcz13_0; try clear hcz13_1; try clear hcz15_0; try clear hcz15_1; try clear hcz19_0; try clear hcz19_1; try clear hcz20_0; try clear hcz20_1; try clear hcz32_0; try clear hcz32_1; try clear hcz34_0; try clear hcz34_1; try clear hcz37_0; try clear hcz37_1; try clear hcz39_0; try clear hcz39_1; try clear hcz42_0; try clear hcz42_1; try clear hfz11_0; try clear hfz11_1; try clear hfz13_0; try clear hfz13_1; try clear hfz15_0; try clear hfz15_1; try clear hfz19_0; try clear hfz19_1; try clear hfz20_0; try clear hfz20_1; try clear hfz32_0; try clear hfz32_1; try clear hfz34_0; try clear hfz34_1; try clear hfz37_0; try clear hfz37_1; try clear hfz39_0; try clear hfz39_1; try clear hfz42_0; try clear hfz42_1; try clear p2
          obtain ⟨kq, x52_24, rfl, HA, HJ24, BK920, BK927, HB⟩ := hcut
          cases kq with
          | zero => exact absurd HA.out (by simp [quinarialaw02_ChannelCarries.j1])
          | succ kj24 =>
           have H := HA.out
           clear HA
           simp only [quinarialaw02_ChannelCarries.j1] at H
           by_cases c44 : x52_24 = true
           ·subst c44
            have H1 : (if t926 = 2 then (if (t924 == 0 && (t925 == 0)) = true then ((quinarialaw02_known.f kj24).bind fun t932 => (some t932)) else (some false)) else (some false)) = some r := by rw [if_pos rfl] at H; exact H
            clear H
            have H := H1
            clear H1
            by_cases c45 : t926 = 2
            ·rw [if_pos c45] at H
             have c45b0 : (t926 == 2) = true := beq_iff_eq.mpr c45
             have c45b1 : (t926 != 2) = false := bne_eq_false_iff_eq.mpr c45
             clear c45
             by_cases c46 : (t924 == 0 && (t925 == 0)) = true
             ·rw [if_pos c46] at H
              have c46b0 : (t924 == 0 && (t925 == 0)) = true := c46
              (try (have c46b1 : decide (t924 = 0 && (t925 == 0)) = true := by simpa using c46))
              (try (have c46b2 : (t924 == 0 && (t925 == 0)) = true := by simpa using c46))
              clear c46
              replace H := Option.bind_eq_some_iff.mp H
              obtain ⟨t932, A470, H⟩ := H
              replace H : (some t932) = some r := H
              have A47 := Aside0.mk A470
              clear A470
              obtain rfl := Option.some.inj H
              have hnb48 := NB927_920.out
              have hnc48 := NB920_927.out
              obtain ⟨hcz49_0, hcz49_1⟩ := cz2 BK927.out
              obtain ⟨hfz49_0, hfz49_1⟩ := fz2 BK927.out
              go_wp2_with (first | (go_at_call 14; (with_reducible refine (quinarialaw02_known.calls kj24  t932 _ ?sideT A47.out).mono ?_); (case sideT => exact HT.out.below uB); rintro e w50 ⟨rfl, hb⟩; replace BK920 := Aside0.mk (blk_below (uK BK920.out) hb); replace BK927 := Aside0.mk (blk_below (uK BK927.out) hb); replace HB := Aside0.mk (below_step uB hb); (try clear hb); (try clear hb2); (try clear hk); (try clear hi)))
              go_ret
              exact ⟨uE, uB⟩
             ·rw [if_neg c46] at H
              have c46b0 : (t924 == 0 && (t925 == 0)) = false := by simpa using c46
              (try (have c46b1 : decide (t924 = 0 && (t925 == 0)) = false := by simpa using c46))
              (try (have c46b2 : (t924 == 0 && (t925 == 0)) = false := by simpa using c46))
              (try (have c46b3 : ¬ (t924 = 0 && (t925 == 0)) := by simpa using c46))
              clear c46
              obtain rfl := Option.some.inj H
              have hnb51 := NB927_920.out
              have hnc51 := NB920_927.out
              obtain ⟨hcz52_0, hcz52_1⟩ := cz2 BK927.out
              obtain ⟨hfz52_0, hfz52_1⟩ := fz2 BK927.out
              go_wp2
              go_ret
              exact ⟨uE, uB⟩
            ·rw [if_neg c45] at H
             have c45b0 : (t926 == 2) = false := beq_eq_false_iff_ne.mpr c45
             have c45b1 : (t926 != 2) = true := bne_iff_ne.mpr c45
             obtain rfl := Option.some.inj H
             go_wp2
             go_ret
             exact ⟨uE, uB⟩
           ·as_aux_lemma =>
             replace c44 := Bool.eq_false_iff.mpr c44
             subst c44
             have H1 : (if t926 = 0 then ((quinariaref02_Carries.f kj24 l0_0 l0_1 a1 a2).bind fun bt933 => (if (t924 == bt933.1 && (t925 == bt933.2)) = true then ((quinarialaw02_known.f kj24).bind fun t935 => (some t935)) else (some false))) else (some false)) = some r := by rw [if_neg (show ¬ (false = true) by decide)] at H; exact H
             clear H
             have H := H1
             clear H1
             by_cases c53 : t926 = 0
             ·rw [if_pos c53] at H
              have c53b0 : (t926 == 0) = true := beq_iff_eq.mpr c53
              have c53b1 : (t926 != 0) = false := bne_eq_false_iff_eq.mpr c53
              clear c53
              replace H := Option.bind_eq_some_iff.mp H
              obtain ⟨⟨t933, t934⟩, A540, H⟩ := H
              replace H : (if (t924 == t933 && (t925 == t934)) = true then ((quinarialaw02_known.f kj24).bind fun t935 => (some t935)) else (some false)) = some r := H
              have A54 := Aside0.mk A540
              clear A540
              by_cases c55 : (t924 == t933 && (t925 == t934)) = true
              ·rw [if_pos c55] at H
               have c55b0 : (t924 == t933 && (t925 == t934)) = true := c55
               (try (have c55b1 : decide (t924 = t933 && (t925 == t934)) = true := by simpa using c55))
               (try (have c55b2 : (t924 == t933 && (t925 == t934)) = true := by simpa using c55))
               clear c55
               replace H := Option.bind_eq_some_iff.mp H
               obtain ⟨t935, A560, H⟩ := H
               replace H : (some t935) = some r := H
               have A56 := Aside0.mk A560
               clear A560
               obtain rfl := Option.some.inj H
               try go_wp2
               replace BK920 := Aside0.mk (blk_drew BK920.out)
               replace BK927 := Aside0.mk (blk_drew BK927.out)
               replace HB := Aside0.mk (below_drew1 HB.out)
               refine start_ (n := 14) (S := fun w' => w'.cell? ⟨gb927, 0, none⟩ = some (.int .i64 t924) ∧ w'.cell? ⟨gb927, 1, none⟩ = some (.int .i64 t925) ∧ w'.cell? ⟨gb920, 0, none⟩ = some (.slice A0_0 l0_0.length c0_0) ∧ w'.cell? ⟨gb920, 1, none⟩ = some (.slice A0_1 l0_1.length c0_1)) (ds := []) (bl 14 0) (by kernel_rfl) rfl rfl ⟨(blk_cell BK927.out 0).trans rfl, (blk_cell BK927.out 1).trans rfl, (blk_cell BK920.out 0).trans rfl, (blk_cell BK920.out 1).trans rfl⟩ (fun hHeld => ?_); refine with_tabW quinarialaw02_ChannelCarries.tab10 quinarialaw02_ChannelCarries.bits10 (fun HT_ HW_ => ?_)
               generalize wc.drew = w57 at BK920 BK927 HB hHeld ⊢
               refine pu 0 63 14 1 ?_
               refine pu 1 64 14 3 ?_
               refine pu 2 65 14 7 ?_
               refine pu 5 68 14 39 ?_
               refine pu 6 69 14 103 ?_
               refine tk4 3 66 14 111 hHeld ?_
               refine tk4 4 67 14 127 hHeld ?_
               refine one_ (i := 7) (N := some 70) (bl 14 255) rfl rfl (one_of HT_.out (by kernel_rfl)) (by decide) (fun K hK => ?_)
               refine goes_ Tryz.func43 (by kernel_rfl) rfl #[.agg #[.slice A0_0 l0_0.length c0_0, .slice A0_1 l0_1.length c0_1], .int .i64 a1, .int .i64 a2] (by rfl) rfl rfl uM ?_
               with_reducible refine (quinariaref02_Carries.calls kj24 _ _ l0_0 _ _ l0_1 a1 a2 t933 t934 _ ?side1 ?side2 ?side3 ?side4 A54.out).mono ?_
               (case side1 => repeat (first | exact (Kd.C_below HR0_0.out HB.out) | (with_reducible refine Kd.C_alloc ?_ _) | (with_reducible refine Kd.C_drewN ?_ _) | (with_reducible refine Kd.C_drew ?_)))
               (case side2 => exact HC0_0.out)
               (case side3 => repeat (first | exact (Kd.C_below HR0_1.out HB.out) | (with_reducible refine Kd.C_alloc ?_ _) | (with_reducible refine Kd.C_drewN ?_ _) | (with_reducible refine Kd.C_drew ?_)))
               (case side4 => exact HC0_1.out)
               rintro e w58 ⟨rfl, hb⟩
               refine ⟨_, rfl, ?_⟩
               replace BK920 := Aside0.mk (blk_below (uK BK920.out) hb)
               replace BK927 := Aside0.mk (blk_below (uK BK927.out) hb)
               replace HB := Aside0.mk (below_step uB hb)
               (try clear hb)
               (try clear hb2)
               (try clear hk)
               (try clear hi)
               refine hK.out _ _ ⟨(blk_cell BK927.out 0).trans rfl, (blk_cell BK927.out 1).trans rfl, (blk_cell BK920.out 0).trans rfl, (blk_cell BK920.out 1).trans rfl⟩ (fun hHeld => ?_)
               clear hK K
               refine nm ?_
               refine pu 8 71 14 511 ?_
               refine pu 9 72 14 1023 ?_
               refine pu 10 73 14 2047 ?_
               refine one_ (i := 11) (N := some 74) (bl 14 4095) rfl rfl (one_of HT_.out (by kernel_rfl)) (by decide) (fun K hK => ?_)
               refine goes_ Tryz.func14 (by kernel_rfl) rfl #[] (by rfl) rfl rfl uM ?_
               with_reducible refine (quinarialaw02_known.calls kj24  t935 _ ?sideT A56.out).mono ?_; (case sideT => exact HT.out.below uB)
               rintro e w59 ⟨rfl, hb⟩
               refine ⟨_, rfl, ?_⟩
               replace BK920 := Aside0.mk (blk_below (uK BK920.out) hb)
               replace BK927 := Aside0.mk (blk_below (uK BK927.out) hb)
               replace HB := Aside0.mk (below_step uB hb)
               (try clear hb)
               (try clear hb2)
               (try clear hk)
               (try clear hi)
               refine hK.out _ _ ⟨(blk_cell BK927.out 0).trans rfl, (blk_cell BK927.out 1).trans rfl, (blk_cell BK920.out 0).trans rfl, (blk_cell BK920.out 1).trans rfl⟩ (fun hHeld => ?_)
               clear hK K
               refine nm ?_
               refine pu 12 75 14 8191 ?_
               refine pu 13 6 14 16383 ?_
               refine done_ (done_of HT_.out (by kernel_rfl)) ?_
               try go_wp2
               go_ret
               exact ⟨uE, uB⟩
              ·rw [if_neg c55] at H
               have c55b0 : (t924 == t933 && (t925 == t934)) = false := by simpa using c55
               (try (have c55b1 : decide (t924 = t933 && (t925 == t934)) = false := by simpa using c55))
               (try (have c55b2 : (t924 == t933 && (t925 == t934)) = false := by simpa using c55))
               (try (have c55b3 : ¬ (t924 = t933 && (t925 == t934)) := by simpa using c55))
               clear c55
               obtain rfl := Option.some.inj H
               try go_wp2
               replace BK920 := Aside0.mk (blk_drew BK920.out)
               replace BK927 := Aside0.mk (blk_drew BK927.out)
               replace HB := Aside0.mk (below_drew1 HB.out)
               refine start_ (n := 14) (S := fun w' => w'.cell? ⟨gb927, 0, none⟩ = some (.int .i64 t924) ∧ w'.cell? ⟨gb927, 1, none⟩ = some (.int .i64 t925) ∧ w'.cell? ⟨gb920, 0, none⟩ = some (.slice A0_0 l0_0.length c0_0) ∧ w'.cell? ⟨gb920, 1, none⟩ = some (.slice A0_1 l0_1.length c0_1)) (ds := []) (bl 14 0) (by kernel_rfl) rfl rfl ⟨(blk_cell BK927.out 0).trans rfl, (blk_cell BK927.out 1).trans rfl, (blk_cell BK920.out 0).trans rfl, (blk_cell BK920.out 1).trans rfl⟩ (fun hHeld => ?_); refine with_tabW quinarialaw02_ChannelCarries.tab10 quinarialaw02_ChannelCarries.bits10 (fun HT_ HW_ => ?_)
               generalize wc.drew = w60 at BK920 BK927 HB hHeld ⊢
               refine pu 0 63 14 1 ?_
               refine pu 1 64 14 3 ?_
               refine pu 2 65 14 7 ?_
               refine pu 5 68 14 39 ?_
               refine pu 6 69 14 103 ?_
               refine tk4 3 66 14 111 hHeld ?_
               refine tk4 4 67 14 127 hHeld ?_
               refine one_ (i := 7) (N := some 70) (bl 14 255) rfl rfl (one_of HT_.out (by kernel_rfl)) (by decide) (fun K hK => ?_)
               refine goes_ Tryz.func43 (by kernel_rfl) rfl #[.agg #[.slice A0_0 l0_0.length c0_0, .slice A0_1 l0_1.length c0_1], .int .i64 a1, .int .i64 a2] (by rfl) rfl rfl uM ?_
               with_reducible refine (quinariaref02_Carries.calls kj24 _ _ l0_0 _ _ l0_1 a1 a2 t933 t934 _ ?side1 ?side2 ?side3 ?side4 A54.out).mono ?_
               (case side1 => repeat (first | exact (Kd.C_below HR0_0.out HB.out) | (with_reducible refine Kd.C_alloc ?_ _) | (with_reducible refine Kd.C_drewN ?_ _) | (with_reducible refine Kd.C_drew ?_)))
               (case side2 => exact HC0_0.out)
               (case side3 => repeat (first | exact (Kd.C_below HR0_1.out HB.out) | (with_reducible refine Kd.C_alloc ?_ _) | (with_reducible refine Kd.C_drewN ?_ _) | (with_reducible refine Kd.C_drew ?_)))
               (case side4 => exact HC0_1.out)
               rintro e w61 ⟨rfl, hb⟩
               refine ⟨_, rfl, ?_⟩
               replace BK920 := Aside0.mk (blk_below (uK BK920.out) hb)
               replace BK927 := Aside0.mk (blk_below (uK BK927.out) hb)
               replace HB := Aside0.mk (below_step uB hb)
               (try clear hb)
               (try clear hb2)
               (try clear hk)
               (try clear hi)
               refine hK.out _ _ ⟨(blk_cell BK927.out 0).trans rfl, (blk_cell BK927.out 1).trans rfl, (blk_cell BK920.out 0).trans rfl, (blk_cell BK920.out 1).trans rfl⟩ (fun hHeld => ?_)
               clear hK K
               refine nm ?_
               refine pu 8 71 14 511 ?_
               refine pu 9 72 14 1023 ?_
               refine pu 10 73 14 2047 ?_
               refine pure_ (i := 11) (N := some 74) (v := undef) (a' := ?_) (bl 14 4095) rfl rfl (any_of HT_.out (by kernel_rfl)) (fun _ _ _ h => h) (Or.inr ⟨by rfl, rfl⟩) ?_ ?_
               rotate_left
               ·simp only [Act.put, List.setIfInBounds_toArray, List.set_cons_zero, List.set_cons_succ, i64_w, i32_w]
                rfl
               refine pu 12 75 14 8191 ?_
               refine pu 13 6 14 16383 ?_
               refine done_ (done_of HT_.out (by kernel_rfl)) ?_
               try go_wp2
               go_ret
               exact ⟨uE, uB⟩
             ·rw [if_neg c53] at H
              have c53b0 : (t926 == 0) = false := beq_eq_false_iff_ne.mpr c53
              have c53b1 : (t926 != 0) = true := bne_iff_ne.mpr c53
              obtain rfl := Option.some.inj H
              try go_wp2
              replace BK920 := Aside0.mk (blk_drew BK920.out)
              replace BK927 := Aside0.mk (blk_drew BK927.out)
              replace HB := Aside0.mk (below_drew1 HB.out)
              refine start_ (n := 14) (S := fun w' => True) (ds := []) (bl 14 0) (by kernel_rfl) rfl rfl trivial (fun hHeld => ?_); refine with_tabW quinarialaw02_ChannelCarries.tab10 quinarialaw02_ChannelCarries.bits10 (fun HT_ HW_ => ?_)
              generalize wc.drew = w62 at BK920 BK927 HB hHeld ⊢
              refine pu 0 63 14 1 ?_
              refine pu 1 64 14 3 ?_
              refine pu 2 65 14 7 ?_
              refine pure_ (i := 3) (N := some 66) (v := undef) (a' := ?_) (bl 14 15) rfl rfl (any_of HT_.out (by kernel_rfl)) (fun _ _ _ h => h) (Or.inr ⟨by rfl, rfl⟩) ?_ ?_
              rotate_left
              ·simp only [Act.put, List.setIfInBounds_toArray, List.set_cons_zero, List.set_cons_succ, i64_w, i32_w]
               rfl
              refine pure_ (i := 4) (N := some 67) (v := undef) (a' := ?_) (bl 14 31) rfl rfl (any_of HT_.out (by kernel_rfl)) (fun _ _ _ h => h) (Or.inr ⟨by rfl, rfl⟩) ?_ ?_
              rotate_left
              ·simp only [Act.put, List.setIfInBounds_toArray, List.set_cons_zero, List.set_cons_succ, i64_w, i32_w]
               rfl
              refine pure_ (i := 5) (N := some 68) (v := undef) (a' := ?_) (bl 14 63) rfl rfl (any_of HT_.out (by kernel_rfl)) (fun _ _ _ h => h) (Or.inr ⟨by rfl, rfl⟩) ?_ ?_
              rotate_left
              ·simp only [Act.put, List.setIfInBounds_toArray, List.set_cons_zero, List.set_cons_succ, i64_w, i32_w]
               rfl
              refine pure_ (i := 6) (N := some 69) (v := undef) (a' := ?_) (bl 14 127) rfl rfl (any_of HT_.out (by kernel_rfl)) (fun _ _ _ h => h) (Or.inr ⟨by rfl, rfl⟩) ?_ ?_
              rotate_left
              ·simp only [Act.put, List.setIfInBounds_toArray, List.set_cons_zero, List.set_cons_succ, i64_w, i32_w]
               rfl
              refine pure_ (i := 7) (N := some 70) (v := undef) (a' := ?_) (bl 14 255) rfl rfl (any_of HT_.out (by kernel_rfl)) (fun _ _ _ h => h) (Or.inr ⟨by rfl, rfl⟩) ?_ ?_
              rotate_left
              ·simp only [Act.put, List.setIfInBounds_toArray, List.set_cons_zero, List.set_cons_succ, i64_w, i32_w]
               rfl
              refine pure_ (i := 8) (N := some 71) (v := undef) (a' := ?_) (bl 14 511) rfl rfl (any_of HT_.out (by kernel_rfl)) (fun _ _ _ h => h) (Or.inr ⟨by rfl, rfl⟩) ?_ ?_
              rotate_left
              ·simp only [Act.put, List.setIfInBounds_toArray, List.set_cons_zero, List.set_cons_succ, i64_w, i32_w]
               rfl
              refine pu 9 72 14 1023 ?_
              refine pu 10 73 14 2047 ?_
              refine pure_ (i := 11) (N := some 74) (v := undef) (a' := ?_) (bl 14 4095) rfl rfl (any_of HT_.out (by kernel_rfl)) (fun _ _ _ h => h) (Or.inr ⟨by rfl, rfl⟩) ?_ ?_
              rotate_left
              ·simp only [Act.put, List.setIfInBounds_toArray, List.set_cons_zero, List.set_cons_succ, i64_w, i32_w]
               rfl
              refine pu 12 75 14 8191 ?_
              refine pu 13 6 14 16383 ?_
              refine done_ (done_of HT_.out (by kernel_rfl)) ?_
              try go_wp2
              go_ret
              exact ⟨uE, uB⟩
 ·replace c5 := Bool.eq_false_iff.mpr c5
  subst c5
  have H1 : ((quinarialaw02_known.f k).bind fun t922 => (some t922)) = some r := by rw [if_neg (show ¬ (false = true) by decide)] at H; exact H
  clear H
  have H := H1
  clear H1
  replace H := Option.bind_eq_some_iff.mp H
  obtain ⟨t922, A630, H⟩ := H
  replace H : (some t922) = some r := H
  have A63 := Aside0.mk A630
  clear A630
  obtain rfl := Option.some.inj H
  go_enter Tryz.func10, Tryz.ntmps10
  go_wp2_with (first | ((with_reducible refine gate_dst (N := 3) rfl ?_); refine bxe 3 #[.slice A0_0 l0_0.length c0_0, .slice A0_1 l0_1.length c0_1] 60 ?_; intro gb920 hg w64 hbox hb; have n0_ := Aside0.mk (below_step uB hb); have n1_ := Aside0.mk (hbox); have n2_ := gw hg; have n3_ := gw hg; clear HB; have HB := n0_; have BK920 := n1_; have GW920 := n2_; have GE920 := n3_; clear n0_ n1_ n2_ n3_; clear hb hbox hg; obtain ⟨hcz65_0, hcz65_1⟩ := cz2 BK920.out; obtain ⟨hfz65_0, hfz65_1⟩ := fz2 BK920.out) | ((with_reducible refine gate_callee (f := 33) rfl ?_); refine goesL_ (some 12) rfl rfl Tryz.func33 (by kernel_rfl) rfl #[.agg #[.slice A0_0 l0_0.length c0_0, .slice A0_1 l0_1.length c0_1]] rfl uM ?_; (with_reducible refine (quinarialaw02_short.calls _ _ l0_0 _ _ l0_1 false _ ?side1 ?side2 ?side3 ?side4 A4.out).mono ?_); (case side1 => repeat (first | exact (Kd.C_below HR0_0.out HB.out) | (with_reducible refine Kd.C_alloc ?_ _) | (with_reducible refine Kd.C_drewN ?_ _) | (with_reducible refine Kd.C_drew ?_))); (case side2 => exact HC0_0.out); (case side3 => repeat (first | exact (Kd.C_below HR0_1.out HB.out) | (with_reducible refine Kd.C_alloc ?_ _) | (with_reducible refine Kd.C_drewN ?_ _) | (with_reducible refine Kd.C_drew ?_))); (case side4 => exact HC0_1.out); rintro e w66 ⟨rfl, hb⟩; refine ⟨_, rfl, ?_⟩; replace BK920 := Aside0.mk (blk_below (uK BK920.out) hb); replace HB := Aside0.mk (below_step uB hb); (try clear hb); (try clear hb2); (try clear hk); (try clear hi)) | ((with_reducible refine gate_callee (f := 14) rfl ?_); refine goesL_ (some 14) rfl rfl Tryz.func14 (by kernel_rfl) rfl #[] rfl uM ?_; (with_reducible refine (quinarialaw02_known.calls k  t922 _ ?sideT A63.out).mono ?_); (case sideT => exact HT.out.below uB); rintro e w67 ⟨rfl, hb⟩; refine ⟨_, rfl, ?_⟩; replace BK920 := Aside0.mk (blk_below (uK BK920.out) hb); replace HB := Aside0.mk (below_step uB hb); (try clear hb); (try clear hb2); (try clear hk); (try clear hi)))
  go_ret
  exact ⟨uE, uB⟩
end Go.Proofs.YtdmdahafiiggiabGreatDoor.K
end
section
namespace Go.Proofs.YtdmdahafiiggiabGreatDoor.K
open Go.RowKit Go.Proofs.YtdmdahafiiggiabGreatDoorW.PrintWords Go.Proofs.YtdmdahafiiggiabGreatDoorW.PrintLast Go.Proofs.YtdmdahafiiggiabGreatDoorW.PrintMore
set_option linter.unusedVariables false
set_option linter.unusedSimpArgs false
theorem cupsN_anti {sp : List Int} {st : List S66} (h : isLineB sp st = true) {n : Int} (hn : numB st n = true) {a a' r r' : Int} (a0 : 0 ≤ a) (ha : a ≤ a') (r0 : 0 ≤ r) (hr : r ≤ r') : cupsN sp st n a' r' ≤ cupsN sp st n a r := by
  have hn := num_range hn
  have hs := line_at h hn.1 hn.2
  unfold cupsN
  have h1 : r * a ≤ r' * a' := Int.mul_le_mul hr ha a0 (by omega)
  have h0 : 0 ≤ r * a := Int.mul_nonneg r0 a0
  have hl : r * a / 100 ≤ r' * a' / 100 := Int.ediv_le_ediv (by omega) h1
  have hl0 : 0 ≤ r * a / 100 := by omega
  generalize r * a / 100 = l at *
  generalize r' * a' / 100 = l' at *
  generalize rd_T66 st n = s at *
  unfold carry
  have := hs.s0
  have m1 : mx 0 (s.f0 - 2 * l') ≤ mx 0 (s.f0 - 2 * l) := by unfold mx; split <;> split <;> omega
  have m2 : mx 0 (s.f1 - l') ≤ mx 0 (s.f1 - l) := by unfold mx; split <;> split <;> omega
  exact Int.mul_le_mul_of_nonneg_right (Int.mul_le_mul m1 m2 (mx_ge 0 _).1 (mx_ge 0 _).1) (by omega)
end Go.Proofs.YtdmdahafiiggiabGreatDoor.K
end
section
namespace Go.Proofs.YtdmdahafiiggiabGreatDoor.K
open Go.RowKit Go.Proofs.YtdmdahafiiggiabGreatDoorW.PrintWords Go.Proofs.YtdmdahafiiggiabGreatDoorW.PrintLast Go.Proofs.YtdmdahafiiggiabGreatDoorW.PrintMore
set_option linter.unusedVariables false
set_option linter.unusedSimpArgs false
abbrev ST := S66
variable {sp : List Int} {st : List ST}
theorem w1 {x : Int} (h0 : -1 ≤ x) (h : x < 9223372036854775807) : wrap64 (x + 1) = x + 1 := IntWalk.wrap64_in _ (by omega)
theorem short_f (sp : List Int) (st : List ST) : quinarialaw02_short.f sp st = some (shortB sp st) := by
  unfold quinarialaw02_short.f shortB
  by_cases h1 : sp.length ≤ 13
  · rw [if_pos (by omega)]
    by_cases h2 : st.length ≤ 10
    · simp [h1, h2]; omega
    · simp [h1, h2]; omega
  · rw [if_neg (by omega)]; simp [h1]
theorem cupsN_range (h : isLineB sp st = true) {n age rate : Int} (hn : numB st n = true) (a0 : 0 ≤ age) (r0 : 0 ≤ rate) : 0 ≤ cupsN sp st n age rate ∧ cupsN sp st n age rate ≤ 10000000 := by
  have hn := num_range hn
  have hs := line_at h hn.1 hn.2
  have hp : 0 ≤ rate * age := Int.mul_nonneg r0 a0
  unfold cupsN
  have hl : 0 ≤ rate * age / 100 := by omega
  generalize rate * age / 100 = l at *
  generalize rd_T66 st n = s at *
  obtain ⟨b0, b1, d0, d1, -, -, -, -, -, s0, s1⟩ := hs
  unfold carry
  have hp := prod_range (mx_ge 0 (s.f0 - 2 * l)).1 (mx_le (show (0 : Int) ≤ 100 by omega) (show s.f0 - 2 * l ≤ 100 by omega)) (mx_ge 0 (s.f1 - l)).1 (mx_le (show (0 : Int) ≤ 100 by omega) (show s.f1 - l ≤ 100 by omega)) (show 0 ≤ rd sp s.f2 by omega) s1
  omega
theorem rcar_from (h : isLineB sp st = true) {n age : Int} (hn : numB st n = true) (ha : inB age 0 200 = true) : ∀ (d : Nat) (r : Int) (K : Nat), (rd_T66 st n).f3.f0 < r → r + d = (rd_T66 st n).f3.f1 + 1 → d < K →
    quinariaref02_Carries.l0 K n age r sp st (cupsN sp st n age (r - 1)) (mostN sp st n age) = some (leastN sp st n age, mostN sp st n age)
  | 0, r, K + 1, h1, h2, hK => by
    have hn' := num_range hn
    unfold quinariaref02_Carries.l0
    rw [if_pos hn'.1, if_pos hn'.2, if_neg (by omega), show r - 1 = (rd_T66 st n).f3.f1 by omega]
    rfl
  | d + 1, r, K + 1, h1, h2, hK => by
    have hn' := num_range hn
    have hs := line_at h hn'.1 hn'.2
    obtain ⟨-, -, -, -, -, -, l0, lh, lh1, -, -⟩ := hs
    have ha' := age_range ha
    unfold quinariaref02_Carries.l0
    rw [if_pos hn'.1, if_pos hn'.2, if_pos (by omega), cupsR_f h hn ha (by omega) (by omega), Option.bind_some, w1 (by omega) (by omega)]
    have e1 : mn (cupsN sp st n age (r - 1)) (cupsN sp st n age r) = cupsN sp st n age (r + 1 - 1) := by
      rw [show r + 1 - 1 = r by omega]
      have := cupsN_anti h hn ha'.1 (Int.le_refl age) (show 0 ≤ r - 1 by omega) (show r - 1 ≤ r by omega)
      unfold mn; split <;> omega
    have e2 : mx (mostN sp st n age) (cupsN sp st n age r) = mostN sp st n age := by
      have := cupsN_anti h hn ha'.1 (Int.le_refl age) l0 (show (rd_T66 st n).f3.f0 ≤ r by omega)
      unfold mx mostN; split <;> omega
    rw [e1, e2]
    exact rcar_from h hn ha d (r + 1) K (by omega) (by omega) (by omega)
theorem rcar_f (h : isLineB sp st = true) {n age : Int} (hn : numB st n = true) (ha : inB age 0 200 = true) (K : Nat) (hK : 102 < K) : quinariaref02_Carries.f K sp st n age = some (leastN sp st n age, mostN sp st n age) := by
  have hn' := num_range hn
  have hs := line_at h hn'.1 hn'.2
  obtain ⟨-, -, -, -, -, -, l0, lh, lh1, -, -⟩ := hs
  have ha' := age_range ha
  unfold quinariaref02_Carries.f
  rw [if_pos hn'.1, if_pos hn'.2]
  obtain ⟨K, rfl⟩ : ∃ k, K = k + 1 := ⟨K - 1, by omega⟩
  unfold quinariaref02_Carries.l0
  rw [if_pos hn'.1, if_pos hn'.2, if_pos lh, cupsR_f h hn ha l0 (by omega), Option.bind_some, w1 (by omega) (by omega)]
  have hr := cupsN_range h hn ha'.1 l0 (rate := (rd_T66 st n).f3.f0)
  have e1 : mn 10000001 (cupsN sp st n age (rd_T66 st n).f3.f0) = cupsN sp st n age ((rd_T66 st n).f3.f0 + 1 - 1) := by
    rw [Int.add_sub_cancel]; unfold mn; split <;> omega
  have e2 : mx (-1) (cupsN sp st n age (rd_T66 st n).f3.f0) = mostN sp st n age := by
    unfold mx mostN; split <;> omega
  rw [e1, e2]
  exact rcar_from h hn ha ((rd_T66 st n).f3.f1 - (rd_T66 st n).f3.f0).toNat _ K (by omega) (by omega) (by omega)
theorem isLineC_f (h1 : sp.length ≤ 1000000) (h2 : st.length ≤ 1000000) : channel_isLine.f sp st = some (isLineB sp st) := by unfold channel_isLine.f; rw [if_pos ⟨by omega, by omega⟩]
end Go.Proofs.YtdmdahafiiggiabGreatDoor.K
end
section
namespace Go.Proofs.YtdmdahafiiggiabGreatDoor.K
open Go.RowKit Go.Proofs.YtdmdahafiiggiabGreatDoorW.PrintWords Go.Proofs.YtdmdahafiiggiabGreatDoorW.PrintLast Go.Proofs.YtdmdahafiiggiabGreatDoorW.PrintMore
set_option linter.unusedVariables false
set_option linter.unusedSimpArgs false
variable {sp : List Int} {st : List ST}
theorem checkC_f (h1 : sp.length ≤ 1000000) (h2 : st.length ≤ 1000000) : channel_Check.f sp st = some (if isLineB sp st = true then 0 else 2) := by
  unfold channel_Check.f
  rw [isLineC_f h1 h2, Option.bind_some]
  cases isLineB sp st <;> rfl
theorem numR_f (hs : st.length ≤ 1000000) (n : Int) : quinariaref02_Number.f sp st n = some (numB st n) := by
  unfold quinariaref02_Number.f numB
  rw [IntWalk.wrap64_in _ (by omega), inR_f, Option.bind_some]
theorem ageR_f (n : Int) : quinariaref02_Age.f n = some (inB n 0 200) := by unfold quinariaref02_Age.f; rw [inR_f, Option.bind_some]
theorem carries_bad {n age : Int} (h : ¬ (isLineB sp st = true ∧ numB st n = true ∧ inB age 0 200 = true)) (K : Nat) : quinarialaw02_ChannelCarries.j1 (K + 1) n age (carriesF sp st n age).2.2 true sp st (carriesF sp st n age).1 (carriesF sp st n age).2.1 = some true := by
  have e : carriesF sp st n age = (0, 0, 2) := if_neg h
  rw [e, quinarialaw02_ChannelCarries.j1, if_pos rfl]
  rfl
theorem carries_j0 (h1 : sp.length ≤ 1000000) (h2 : st.length ≤ 1000000) (hl : sp.length + st.length ≤ 50) (n age : Int) : quinarialaw02_ChannelCarries.j0 (200 + 1 + 1) n age (carriesF sp st n age).2.2 false sp st (carriesF sp st n age).1 (carriesF sp st n age).2.1 = some true := by
  rw [quinarialaw02_ChannelCarries.j0, if_neg (by simp), right_f (by omega) (by omega) _ (by omega), Option.bind_some]
  cases e1 : isLineB sp st with
  | false => rw [if_neg (by simp)]; exact carries_bad (by simp [e1]) _
  | true =>
  rw [if_pos rfl, numR_f (by omega), Option.bind_some]
  cases e2 : numB st n with
  | false => rw [if_neg (by simp)]; exact carries_bad (by simp [e2]) _
  | true =>
  rw [if_pos rfl, ageR_f, Option.bind_some]
  cases e3 : inB age 0 200 with
  | false => exact carries_bad (by simp [e3]) _
  | true =>
    have e : carriesF sp st n age = (leastN sp st n age, mostN sp st n age, 0) := if_pos ⟨e1, e2, e3⟩
    rw [e, Bool.not_true, quinarialaw02_ChannelCarries.j1, if_neg (by simp)]
    simp only [if_true]
    rw [rcar_f e1 e2 e3 _ (by omega), Option.bind_some]
    simp [quinarialaw02_known.f]
theorem ChannelCarries_pure (sp : List Int) (st : List ST) (n age : Int) : quinarialaw02_ChannelCarries.f (200 + 1 + 1) sp st n age = some true := by
  unfold quinarialaw02_ChannelCarries.f
  rw [short_f, Option.bind_some]
  cases hs : shortB sp st with
  | false => rw [if_neg (by simp)]; rfl
  | true =>
    have hl := short_lens hs
    have h0 := carries_j0 (sp := sp) (st := st) (by omega) (by omega) (by omega) n age
    rw [if_pos rfl, checkC_f (by omega) (by omega), Option.bind_some, carries_f (by omega) (by omega) n age _ (by omega), Option.bind_some, right_f (by omega) (by omega) _ (by omega), Option.bind_some]
    cases e1 : isLineB sp st with
    | false => simpa using h0
    | true => simpa using h0
theorem ChannelCarries_law (A0 A1 : Option Addr) (c0 c1 : Nat) (sp : List Int) (st : List ST) (n age : Int) (w : World) (hT : TabW w) (h0 : At' (Kd.int .i64) w A0 sp.length c0 sp) (h1 : At' k66 w A1 st.length c1 st) :
    Calls Tryz.prog 10 #[.agg #[.slice A0 sp.length c0, .slice A1 st.length c1], .int .i64 n, .int .i64 age] w fun e w' => e = .returned (.bool true) ∧ Below w.heap.size w w' :=
  quinarialaw02_ChannelCarries.calls _ A0 c0 sp A1 c1 st n age true w h0.c h0.le h1.c h1.le hT (ChannelCarries_pure sp st n age)
end Go.Proofs.YtdmdahafiiggiabGreatDoor.K
end
