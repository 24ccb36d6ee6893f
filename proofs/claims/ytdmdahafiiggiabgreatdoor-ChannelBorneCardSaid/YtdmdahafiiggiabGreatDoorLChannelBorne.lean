/- ChannelBorne: the walk of the law, and what it comes to. -/
import Derived.Test.YtdmdahafiiggiabGreatDoorH5
set_option linter.unusedVariables false
set_option linter.unusedSimpArgs false
section
namespace Go.Proofs.YtdmdahafiiggiabGreatDoor.K
open Go.RowKit Go.Proofs.YtdmdahafiiggiabGreatDoorW.PrintWords Go.Proofs.YtdmdahafiiggiabGreatDoorW.PrintLast Go.Proofs.YtdmdahafiiggiabGreatDoorW.PrintMore
attribute [local go_sem] max2_int min2_int max_two min_two max_three min_three max_four min_four
def quinarialaw02_slim.f (a0_0 : Int) (a0_1 : Int) (l0_2 : List (S23)) (l0_3 : List Int) (l1 : List (S53)) : Option (Bool) := if (l0_2.length : Int) ≤ 10 then (if (l0_3.length : Int) ≤ 10 then (some (decide ((l1.length : Int) ≤ 6))) else (some false)) else (some false)
set_option maxHeartbeats 8000000 in
set_option maxRecDepth 100000 in
theorem quinarialaw02_slim.calls (a0_0 : Int) (a0_1 : Int) (A0_2 : Option Addr) (c0_2 : Nat) (l0_2 : List (S23)) (A0_3 : Option Addr) (c0_3 : Nat) (l0_3 : List Int) (A1 : Option Addr) (c1 : Nat) (l1 : List (S53)) (r : Bool) (w : World) (hr0_2 : Kd.C k23 w A0_2 l0_2.length l0_2) (hc0_2 : l0_2.length ≤ c0_2) (hr0_3 : Kd.C (Kd.int .i64) w A0_3 l0_3.length l0_3) (hc0_3 : l0_3.length ≤ c0_3) (hr1 : Kd.C k53 w A1 l1.length l1) (hc1 : l1.length ≤ c1) (h : quinarialaw02_slim.f a0_0 a0_1 l0_2 l0_3 l1 = some r) :
  Calls Tryz.prog 13 #[.agg #[.int .i64 a0_0, .int .i64 a0_1, .slice A0_2 l0_2.length c0_2, .slice A0_3 l0_3.length c0_3], .slice A1 l1.length c1] w fun e w' => e = .returned (.bool r) ∧ Below w.heap.size w w' := by
 have hu27 := Tryz.underlying27; have HR0_2 := Aside0.mk hr0_2; have HC0_2 := Aside0.mk hc0_2; clear hr0_2 hc0_2; have HR0_3 := Aside0.mk hr0_3; have HC0_3 := Aside0.mk hc0_3; clear hr0_3 hc0_3; have HR1 := Aside0.mk hr1; have HC1 := Aside0.mk hc1; clear hr1 hc1; have HB := Aside0.mk (Below.refl w.heap.size w); have H : (if (l0_2.length : Int) ≤ 10 then (if (l0_3.length : Int) ≤ 10 then (some (decide ((l1.length : Int) ≤ 6))) else (some false)) else (some false)) = some r := h; clear h
 by_cases c3 : (l0_2.length : Int) ≤ 10
 ·rw [if_pos c3] at H; have c3b0 : decide ((l0_2.length : Int) ≤ 10) = true := decide_eq_true c3; have c3b1 : decide (l0_2.length ≤ 10) = true := decide_eq_true (by omega); clear c3
  by_cases c4 : (l0_3.length : Int) ≤ 10
  ·rw [if_pos c4] at H; have c4b0 : decide ((l0_3.length : Int) ≤ 10) = true := decide_eq_true c4; have c4b1 : decide (l0_3.length ≤ 10) = true := decide_eq_true (by omega); clear c4; obtain rfl := Option.some.inj H
   go_enter Tryz.func13, Tryz.ntmps13
   go_wp2_with (first | ((with_reducible refine gate_dst (N := 2) rfl ?_); (try (refine gate_guard (by rfl) ?_; dsimp only)); refine bxe 2 #[.int .i64 a0_0, .int .i64 a0_1, .slice A0_2 l0_2.length c0_2, .slice A0_3 l0_3.length c0_3] 27 ?_; intro gb104 hg w5 hbox hb; have n0_ := Aside0.mk (below_step uB hb); have n1_ := Aside0.mk (hbox); have n2_ := gw hg; have n3_ := gw hg; clear HB; have HB := n0_; have BK104 := n1_; have GW104 := n2_; have GE104 := n3_; clear n0_ n1_ n2_ n3_; clear hb hbox hg; obtain ⟨hcz6_0, hcz6_1, hcz6_2, hcz6_3⟩ := cz4 BK104.out; obtain ⟨hfz6_0, hfz6_1, hfz6_2, hfz6_3⟩ := fz4 BK104.out))
   go_ret; exact ⟨uE, uB⟩
  ·rw [if_neg c4] at H; have c4b0 : decide ((l0_3.length : Int) ≤ 10) = false := decide_eq_false c4; have c4b1 : decide (l0_3.length ≤ 10) = false := decide_eq_false (by omega); clear c4; obtain rfl := Option.some.inj H
   go_enter Tryz.func13, Tryz.ntmps13
   go_wp2_with (first | ((with_reducible refine gate_dst (N := 2) rfl ?_); (try (refine gate_guard (by rfl) ?_; dsimp only)); refine bxe 2 #[.int .i64 a0_0, .int .i64 a0_1, .slice A0_2 l0_2.length c0_2, .slice A0_3 l0_3.length c0_3] 27 ?_; intro gb104 hg w7 hbox hb; have n0_ := Aside0.mk (below_step uB hb); have n1_ := Aside0.mk (hbox); have n2_ := gw hg; have n3_ := gw hg; clear HB; have HB := n0_; have BK104 := n1_; have GW104 := n2_; have GE104 := n3_; clear n0_ n1_ n2_ n3_; clear hb hbox hg; obtain ⟨hcz8_0, hcz8_1, hcz8_2, hcz8_3⟩ := cz4 BK104.out; obtain ⟨hfz8_0, hfz8_1, hfz8_2, hfz8_3⟩ := fz4 BK104.out))
   go_ret; exact ⟨uE, uB⟩
 ·rw [if_neg c3] at H; have c3b0 : decide ((l0_2.length : Int) ≤ 10) = false := decide_eq_false c3; have c3b1 : decide (l0_2.length ≤ 10) = false := decide_eq_false (by omega); clear c3; obtain rfl := Option.some.inj H
  go_enter Tryz.func13, Tryz.ntmps13
  go_wp2_with (first | ((with_reducible refine gate_dst (N := 2) rfl ?_); (try (refine gate_guard (by rfl) ?_; dsimp only)); refine bxe 2 #[.int .i64 a0_0, .int .i64 a0_1, .slice A0_2 l0_2.length c0_2, .slice A0_3 l0_3.length c0_3] 27 ?_; intro gb104 hg w9 hbox hb; have n0_ := Aside0.mk (below_step uB hb); have n1_ := Aside0.mk (hbox); have n2_ := gw hg; have n3_ := gw hg; clear HB; have HB := n0_; have BK104 := n1_; have GW104 := n2_; have GE104 := n3_; clear n0_ n1_ n2_ n3_; clear hb hbox hg; obtain ⟨hcz10_0, hcz10_1, hcz10_2, hcz10_3⟩ := cz4 BK104.out; obtain ⟨hfz10_0, hfz10_1, hfz10_2, hfz10_3⟩ := fz4 BK104.out))
  go_ret; exact ⟨uE, uB⟩
end Go.Proofs.YtdmdahafiiggiabGreatDoor.K
end
section
namespace Go.Proofs.YtdmdahafiiggiabGreatDoor.K
open Go.RowKit Go.Proofs.YtdmdahafiiggiabGreatDoorW.PrintWords Go.Proofs.YtdmdahafiiggiabGreatDoorW.PrintLast Go.Proofs.YtdmdahafiiggiabGreatDoorW.PrintMore
def quinarialaw02_known.f (_ : Nat) : Option Bool := some true
theorem quinarialaw02_known.calls (k : Nat) (r : Bool) (w : World) (hT : TabW w) (h : quinarialaw02_known.f k  = some r) :
    Calls Tryz.prog 14 #[] w fun e w' => e = .returned (.bool r) ∧ Below w.heap.size w w' := by
  obtain rfl : true = r := Option.some.inj h; exact known_any w hT
end Go.Proofs.YtdmdahafiiggiabGreatDoor.K
end
section
namespace Go.Proofs.YtdmdahafiiggiabGreatDoor.K
open Go.RowKit Go.Proofs.YtdmdahafiiggiabGreatDoorW.PrintWords Go.Proofs.YtdmdahafiiggiabGreatDoorW.PrintLast Go.Proofs.YtdmdahafiiggiabGreatDoorW.PrintMore
attribute [local go_sem] max2_int min2_int max_two min_two max_three min_three max_four min_four
def quinariaref02_height.f (a0_0 : Int) (a0_1 : Int) : Option (Bool) := (quinariaref02_between.f a0_0 a0_1 0 1000).bind fun t580 => (some t580)
set_option maxHeartbeats 8000000 in
set_option maxRecDepth 100000 in
theorem quinariaref02_height.calls (a0_0 : Int) (a0_1 : Int) (r : Bool) (w : World) (h : quinariaref02_height.f a0_0 a0_1 = some r) :
  Calls Tryz.prog 57 #[.agg #[.int .i64 a0_0, .int .i64 a0_1]] w fun e w' => e = .returned (.bool r) ∧ Below w.heap.size w w' := by
 have hu23 := Tryz.underlying23; have HB := Aside0.mk (Below.refl w.heap.size w); have H : ((quinariaref02_between.f a0_0 a0_1 0 1000).bind fun t580 => (some t580)) = some r := h; clear h; replace H := Option.bind_eq_some_iff.mp H; obtain ⟨t580, A20, H⟩ := H; replace H : (some t580) = some r := H; have A2 := Aside0.mk A20; clear A20; obtain rfl := Option.some.inj H
 go_enter Tryz.func57, Tryz.ntmps57
 go_wp2_with (first | ((with_reducible refine gate_dst (N := 1) rfl ?_); refine bxe 1 #[.int .i64 a0_0, .int .i64 a0_1] 23 ?_; intro gb579 hg w3 hbox hb; have n0_ := Aside0.mk (below_step uB hb); have n1_ := Aside0.mk (hbox); have n2_ := gw hg; have n3_ := gw hg; clear HB; have HB := n0_; have BK579 := n1_; have GW579 := n2_; have GE579 := n3_; clear n0_ n1_ n2_ n3_; clear hb hbox hg; obtain ⟨hcz4_0, hcz4_1⟩ := cz2 BK579.out; obtain ⟨hfz4_0, hfz4_1⟩ := fz2 BK579.out) | ((with_reducible refine gate_callee (f := 104) rfl ?_); refine goesL_ (some 4) rfl rfl Tryz.func104 (by kernel_rfl) rfl #[.agg #[.int .i64 a0_0, .int .i64 a0_1], .int .i64 0, .int .i64 1000] rfl uM ?_; (with_reducible refine (quinariaref02_between.calls a0_0 a0_1 0 1000 t580 _ A2.out).mono ?_); rintro e w5 ⟨rfl, hb⟩; refine ⟨_, rfl, ?_⟩; replace BK579 := Aside0.mk (blk_below (uK BK579.out) hb); replace HB := Aside0.mk (below_step uB hb); (try clear hb); (try clear hb2); (try clear hk); (try clear hi)))
 go_ret; exact ⟨uE, uB⟩
end Go.Proofs.YtdmdahafiiggiabGreatDoor.K
end
section
namespace Go.Proofs.YtdmdahafiiggiabGreatDoor.K
open Go.RowKit Go.Proofs.YtdmdahafiiggiabGreatDoorW.PrintWords Go.Proofs.YtdmdahafiiggiabGreatDoorW.PrintLast Go.Proofs.YtdmdahafiiggiabGreatDoorW.PrintMore
attribute [local go_sem] max2_int min2_int max_two min_two max_three min_three max_four min_four
mutual
def quinariaref02_Siphon.l0 : Nat → Int → Int → Int → List (S23) → List Int → Option (Bool)
 | 0, _, _, _, _, _ => none
 | k + 1, x3, x582000, x582001, x582002, x582003 => if x3 < (x582002.length : Int) then (if 0 ≤ x3 then ((quinariaref02_height.f ((rd_T23 x582002 x3).f0) ((rd_T23 x582002 x3).f1)).bind fun t583 => (if t583 = true then (quinariaref02_Siphon.l0 k (wrap64 (x3 + 1)) x582000 x582001 x582002 x582003) else (some false))) else (none)) else (quinariaref02_Siphon.l1 k 0 x582000 x582001 x582002 x582003)
def quinariaref02_Siphon.l1 : Nat → Int → Int → Int → List (S23) → List Int → Option (Bool)
 | 0, _, _, _, _, _ => none
 | k + 1, x4, x582000, x582001, x582002, x582003 => if x4 < (x582003.length : Int) then (if 0 ≤ x4 then ((quinariaref02_in.f (rd x582003 x4) 1 100).bind fun t585 => (if t585 = true then (quinariaref02_Siphon.l1 k (wrap64 (x4 + 1)) x582000 x582001 x582002 x582003) else (some false))) else (none)) else ((quinariaref02_height.f x582000 x582001).bind fun t586 => (if t586 = true then ((quinariaref02_in.f (x582002.length : Int) 2 8).bind fun t587 => (if t587 = true then (some ((x582003.length : Int) == (wrap64 ((x582002.length : Int) - 1)))) else (some false))) else (some false)))
end
def quinariaref02_Siphon.f (k : Nat) (a0_0 : Int) (a0_1 : Int) (l0_2 : List (S23)) (l0_3 : List Int) : Option (Bool) := quinariaref02_Siphon.l0 k 0 a0_0 a0_1 l0_2 l0_3
set_option maxHeartbeats 8000000 in
set_option maxRecDepth 100000 in
theorem quinariaref02_Siphon.calls (k : Nat) (a0_0 : Int) (a0_1 : Int) (A0_2 : Option Addr) (c0_2 : Nat) (l0_2 : List (S23)) (A0_3 : Option Addr) (c0_3 : Nat) (l0_3 : List Int) (r : Bool) (w : World) (hr0_2 : Kd.C k23 w A0_2 l0_2.length l0_2) (hc0_2 : l0_2.length ≤ c0_2) (hr0_3 : Kd.C (Kd.int .i64) w A0_3 l0_3.length l0_3) (hc0_3 : l0_3.length ≤ c0_3) (h : quinariaref02_Siphon.f k a0_0 a0_1 l0_2 l0_3 = some r) :
  Calls Tryz.prog 17 #[.agg #[.int .i64 a0_0, .int .i64 a0_1, .slice A0_2 l0_2.length c0_2, .slice A0_3 l0_3.length c0_3]] w fun e w' => e = .returned (.bool r) ∧ Below w.heap.size w w' := by
 have hu27 := Tryz.underlying27; have hu23 := Tryz.underlying23; have HR0_2 := Aside0.mk hr0_2; have HC0_2 := Aside0.mk hc0_2; clear hr0_2 hc0_2; have HR0_3 := Aside0.mk hr0_3; have HC0_3 := Aside0.mk hc0_3; clear hr0_3 hc0_3; have HB := Aside0.mk (Below.refl w.heap.size w); have H : (quinariaref02_Siphon.l0 k 0 a0_0 a0_1 l0_2 l0_3) = some r := h; clear h; have H' := Aside0.mk H; clear H
 go_enter Tryz.func17, Tryz.ntmps17
 go_wp2_with (first | ((with_reducible refine gate_dst (N := 1) rfl ?_); (try (refine gate_guard (by rfl) ?_; dsimp only)); refine bxe 1 #[.int .i64 a0_0, .int .i64 a0_1, .slice A0_2 l0_2.length c0_2, .slice A0_3 l0_3.length c0_3] 27 ?_; intro gb581 hg w2 hbox hb; have n0_ := Aside0.mk (below_step uB hb); have n1_ := Aside0.mk (hbox); have n2_ := gw hg; have n3_ := gw hg; clear HB; have HB := n0_; have BK581 := n1_; have GW581 := n2_; have GE581 := n3_; clear n0_ n1_ n2_ n3_; clear hb hbox hg))
 go_loopg [3] k (fun kq v3 w' => ∃ (x3_1 : Int), v3 = .int .i64 x3_1 ∧ Aside0 (quinariaref02_Siphon.l0 kq x3_1 a0_0 a0_1 l0_2 l0_3 = some r) ∧ Aside0 (kq ≤ k) ∧ Aside0 (w'.heap[gb581]? = some (.cells #[.int .i64 a0_0, .int .i64 a0_1, (.slice A0_2 l0_2.length c0_2), (.slice A0_3 l0_3.length c0_3)] 27 (0, 0))) ∧ Aside0 (Below w.heap.size w w'))
 case atStart => exact ⟨(0), u0, H', ⟨Nat.le_refl _⟩, ⟨uK BK581.out⟩, ⟨uB⟩⟩
 case round =>
  clear H'; try clear c1; try clear p2
  obtain ⟨x3_1, rfl, HA, HK1, BK581, HB⟩ := hrel
  cases gk with
  | zero => exact absurd HA.out (by simp [quinariaref02_Siphon.l0])
  | succ k1 =>
   have H := HA.out; clear HA; simp only [quinariaref02_Siphon.l0] at H
   by_cases c3 : x3_1 < (l0_2.length : Int)
   ·rw [if_pos c3] at H; replace c3 := decide_eq_true c3; obtain ⟨c4, H⟩ := ifs H; replace c4 := decide_eq_true c4; replace H := Option.bind_eq_some_iff.mp H; obtain ⟨t583, A50, H⟩ := H; replace H : (if t583 = true then (quinariaref02_Siphon.l0 k1 (wrap64 (x3_1 + 1)) a0_0 a0_1 l0_2 l0_3) else (some false)) = some r := H; have A5 := Aside0.mk A50; clear A50
    by_cases c6 : t583 = true
    ·subst c6; have H1 : (quinariaref02_Siphon.l0 k1 (wrap64 (x3_1 + 1)) a0_0 a0_1 l0_2 l0_3) = some r := by rw [if_pos rfl] at H; exact H
     clear H; have H := H1; clear H1; have H' := Aside0.mk H; clear H; obtain ⟨hcz7_0, hcz7_1, hcz7_2, hcz7_3⟩ := cz4 BK581.out; obtain ⟨hfz7_0, hfz7_1, hfz7_2, hfz7_3⟩ := fz4 BK581.out; have p582 : 0 ≤ (x3_1 : Int) := uD; have q582 : x3_1 < (l0_2.length : Int) := uD; obtain ⟨ad582, e582, hx582_0, hx582_1⟩ := at_T23 HR0_2.out x3_1 p582 q582
     cases e582
     replace hx582_0 := hcell HB.out hx582_0; replace hx582_1 := hcell HB.out hx582_1; replace p582 := eq_true p582; replace q582 := eq_true q582
     go_wp2_with (first | ((with_reducible refine gate_callee (f := 57) rfl ?_); refine goesL_ (some 17) rfl rfl Tryz.func57 (by kernel_rfl) rfl #[.agg #[.int .i64 ((rd_T23 l0_2 x3_1).f0), .int .i64 ((rd_T23 l0_2 x3_1).f1)]] rfl uM ?_; (with_reducible refine (quinariaref02_height.calls ((rd_T23 l0_2 x3_1).f0) ((rd_T23 l0_2 x3_1).f1) true _ A5.out).mono ?_); rintro e w8 ⟨rfl, hb⟩; refine ⟨_, rfl, ?_⟩; replace BK581 := Aside0.mk (blk_below (uK BK581.out) hb); replace HB := Aside0.mk (below_step uB hb); (try clear hb); (try clear hb2); (try clear hk); (try clear hi)))
     go_roundg k1
     case measure => have := HK1.out; omega
     case rel => exact ⟨(wrap64 (x3_1 + 1)), u0, H', ⟨by have := HK1.out; omega⟩, ⟨uK BK581.out⟩, ⟨uB⟩⟩
    ·replace c6 := Bool.eq_false_iff.mpr c6; subst c6; have H1 : (some false) = some r := by rw [if_neg (show ¬ (false = true) by decide)] at H; exact H
     clear H; have H := H1; clear H1; obtain rfl := Option.some.inj H; obtain ⟨hcz9_0, hcz9_1, hcz9_2, hcz9_3⟩ := cz4 BK581.out; obtain ⟨hfz9_0, hfz9_1, hfz9_2, hfz9_3⟩ := fz4 BK581.out; have p582 : 0 ≤ (x3_1 : Int) := uD; have q582 : x3_1 < (l0_2.length : Int) := uD; obtain ⟨ad582, e582, hx582_0, hx582_1⟩ := at_T23 HR0_2.out x3_1 p582 q582
     cases e582
     replace hx582_0 := hcell HB.out hx582_0; replace hx582_1 := hcell HB.out hx582_1; replace p582 := eq_true p582; replace q582 := eq_true q582
     go_wp2_with (first | ((with_reducible refine gate_callee (f := 57) rfl ?_); refine goesL_ (some 17) rfl rfl Tryz.func57 (by kernel_rfl) rfl #[.agg #[.int .i64 ((rd_T23 l0_2 x3_1).f0), .int .i64 ((rd_T23 l0_2 x3_1).f1)]] rfl uM ?_; (with_reducible refine (quinariaref02_height.calls ((rd_T23 l0_2 x3_1).f0) ((rd_T23 l0_2 x3_1).f1) false _ A5.out).mono ?_); rintro e w10 ⟨rfl, hb⟩; refine ⟨_, rfl, ?_⟩; replace BK581 := Aside0.mk (blk_below (uK BK581.out) hb); replace HB := Aside0.mk (below_step uB hb); (try clear hb); (try clear hb2); (try clear hk); (try clear hi)))
     go_ret; exact ⟨uE, uB⟩
   ·rw [if_neg c3] at H; replace c3 := decide_eq_false c3; have H' := Aside0.mk H; clear H; obtain ⟨hcz11_0, hcz11_1, hcz11_2, hcz11_3⟩ := cz4 BK581.out; obtain ⟨hfz11_0, hfz11_1, hfz11_2, hfz11_3⟩ := fz4 BK581.out; go_wp2
    go_loopg [4] k1 (fun kq v4 w' => ∃ (x4_2 : Int), v4 = .int .i64 x4_2 ∧ Aside0 (quinariaref02_Siphon.l1 kq x4_2 a0_0 a0_1 l0_2 l0_3 = some r) ∧ Aside0 (kq ≤ k1) ∧ Aside0 (w'.heap[gb581]? = some (.cells #[.int .i64 a0_0, .int .i64 a0_1, (.slice A0_2 l0_2.length c0_2), (.slice A0_3 l0_3.length c0_3)] 27 (0, 0))) ∧ Aside0 (Below w.heap.size w w'))
    case atStart => exact ⟨(0), u0, H', ⟨Nat.le_refl _⟩, ⟨uK BK581.out⟩, ⟨uB⟩⟩
    case round =>
     clear H'; try clear c1; try clear p2; try clear c3; try clear c3b0; try clear c4; try clear c4b0; try clear c5; try clear p5; try clear q5; try clear hx5; try clear c6; try clear p6; try clear hcz11_0; try clear hcz11_1; try clear hcz11_2; try clear hcz11_3; try clear hcz7_0; try clear hcz7_1; try clear hcz7_2; try clear hcz7_3; try clear hcz9_0; try clear hcz9_1; try clear hcz9_2; try clear hcz9_3; try clear hfz11_0; try clear hfz11_1; try clear hfz11_2; try clear hfz11_3; try clear hfz7_0; try clear hfz7_1; try clear hfz7_2; try clear hfz7_3; try clear hfz9_0; try clear hfz9_1; try clear hfz9_2; try clear hfz9_3; try clear hx582_0; try clear hx582_1; try clear p2; try clear p582; try clear q582
     obtain ⟨x4_2, rfl, HA, HK2, BK581, HB⟩ := hrel
     cases gk with
     | zero => exact absurd HA.out (by simp [quinariaref02_Siphon.l1])
     | succ k2 =>
      have H := HA.out; clear HA; simp only [quinariaref02_Siphon.l1] at H
      by_cases c12 : x4_2 < (l0_3.length : Int)
      ·rw [if_pos c12] at H; replace c12 := decide_eq_true c12; obtain ⟨c13, H⟩ := ifs H; replace c13 := decide_eq_true c13; replace H := Option.bind_eq_some_iff.mp H; obtain ⟨t585, A140, H⟩ := H; replace H : (if t585 = true then (quinariaref02_Siphon.l1 k2 (wrap64 (x4_2 + 1)) a0_0 a0_1 l0_2 l0_3) else (some false)) = some r := H; have A14 := Aside0.mk A140; clear A140
       by_cases c15 : t585 = true
       ·subst c15; have H1 : (quinariaref02_Siphon.l1 k2 (wrap64 (x4_2 + 1)) a0_0 a0_1 l0_2 l0_3) = some r := by rw [if_pos rfl] at H; exact H
        clear H; have H := H1; clear H1; have H' := Aside0.mk H; clear H; obtain ⟨hcz16_0, hcz16_1, hcz16_2, hcz16_3⟩ := cz4 BK581.out; obtain ⟨hfz16_0, hfz16_1, hfz16_2, hfz16_3⟩ := fz4 BK581.out; have p584 : 0 ≤ (x4_2 : Int) := uD; have q584 : x4_2 < (l0_3.length : Int) := uD; obtain ⟨ad584, e584, hx584_0⟩ := Kd.at_int HR0_3.out x4_2 p584 q584
        cases e584
        replace hx584_0 := hcell HB.out hx584_0; replace p584 := eq_true p584; replace q584 := eq_true q584
        go_wp2_with (first | ((with_reducible refine gate_callee (f := 58) rfl ?_); refine goesL_ (some 31) rfl rfl Tryz.func58 (by kernel_rfl) rfl #[.int .i64 (rd l0_3 x4_2), .int .i64 1, .int .i64 100] rfl uM ?_; (with_reducible refine (quinariaref02_in.calls (rd l0_3 x4_2) 1 100 true _ A14.out).mono ?_); rintro e w' ⟨rfl, ⟨nd, rfl⟩⟩; refine ⟨_, rfl, ?_⟩))
        go_roundg k2
        case measure => have := HK1.out; have := HK2.out; omega
        case rel => exact ⟨(wrap64 (x4_2 + 1)), u0, H', ⟨by have := HK1.out; have := HK2.out; omega⟩, ⟨uK BK581.out⟩, ⟨uB⟩⟩
       ·replace c15 := Bool.eq_false_iff.mpr c15; subst c15; have H1 : (some false) = some r := by rw [if_neg (show ¬ (false = true) by decide)] at H; exact H
        clear H; have H := H1; clear H1; obtain rfl := Option.some.inj H; obtain ⟨hcz17_0, hcz17_1, hcz17_2, hcz17_3⟩ := cz4 BK581.out; obtain ⟨hfz17_0, hfz17_1, hfz17_2, hfz17_3⟩ := fz4 BK581.out; have p584 : 0 ≤ (x4_2 : Int) := uD; have q584 : x4_2 < (l0_3.length : Int) := uD; obtain ⟨ad584, e584, hx584_0⟩ := Kd.at_int HR0_3.out x4_2 p584 q584
        cases e584
        replace hx584_0 := hcell HB.out hx584_0; replace p584 := eq_true p584; replace q584 := eq_true q584
        go_wp2_with (first | ((with_reducible refine gate_callee (f := 58) rfl ?_); refine goesL_ (some 31) rfl rfl Tryz.func58 (by kernel_rfl) rfl #[.int .i64 (rd l0_3 x4_2), .int .i64 1, .int .i64 100] rfl uM ?_; (with_reducible refine (quinariaref02_in.calls (rd l0_3 x4_2) 1 100 false _ A14.out).mono ?_); rintro e w' ⟨rfl, ⟨nd, rfl⟩⟩; refine ⟨_, rfl, ?_⟩))
        go_ret; exact ⟨uE, uB⟩
      ·rw [if_neg c12] at H; replace c12 := decide_eq_false c12; replace H := Option.bind_eq_some_iff.mp H; obtain ⟨t586, A180, H⟩ := H; replace H : (if t586 = true then ((quinariaref02_in.f (l0_2.length : Int) 2 8).bind fun t587 => (if t587 = true then (some ((l0_3.length : Int) == (wrap64 ((l0_2.length : Int) - 1)))) else (some false))) else (some false)) = some r := H; have A18 := Aside0.mk A180; clear A180
       by_cases c19 : t586 = true
       ·subst c19; have H1 : ((quinariaref02_in.f (l0_2.length : Int) 2 8).bind fun t587 => (if t587 = true then (some ((l0_3.length : Int) == (wrap64 ((l0_2.length : Int) - 1)))) else (some false))) = some r := by rw [if_pos rfl] at H; exact H
        clear H; have H := H1; clear H1; replace H := Option.bind_eq_some_iff.mp H; obtain ⟨t587, A200, H⟩ := H; replace H : (if t587 = true then (some ((l0_3.length : Int) == (wrap64 ((l0_2.length : Int) - 1)))) else (some false)) = some r := H; have A20 := Aside0.mk A200; clear A200
        by_cases c21 : t587 = true
        ·subst c21; have H1 : (some ((l0_3.length : Int) == (wrap64 ((l0_2.length : Int) - 1)))) = some r := by rw [if_pos rfl] at H; exact H
         clear H; have H := H1; clear H1; obtain rfl := Option.some.inj H; obtain ⟨hcz22_0, hcz22_1, hcz22_2, hcz22_3⟩ := cz4 BK581.out; obtain ⟨hfz22_0, hfz22_1, hfz22_2, hfz22_3⟩ := fz4 BK581.out
         go_wp2_with (first | ((with_reducible refine gate_callee (f := 57) rfl ?_); refine goesL_ (some 35) rfl rfl Tryz.func57 (by kernel_rfl) rfl #[.agg #[.int .i64 a0_0, .int .i64 a0_1]] rfl uM ?_; (with_reducible refine (quinariaref02_height.calls a0_0 a0_1 true _ A18.out).mono ?_); rintro e w23 ⟨rfl, hb⟩; refine ⟨_, rfl, ?_⟩; replace BK581 := Aside0.mk (blk_below (uK BK581.out) hb); replace HB := Aside0.mk (below_step uB hb); (try clear hb); (try clear hb2); (try clear hk); (try clear hi); obtain ⟨hcz24_0, hcz24_1, hcz24_2, hcz24_3⟩ := cz4 BK581.out; obtain ⟨hfz24_0, hfz24_1, hfz24_2, hfz24_3⟩ := fz4 BK581.out) | (go_at_call 58; (with_reducible refine (quinariaref02_in.calls (l0_2.length : Int) 2 8 true _ A20.out).mono ?_); rintro e w' ⟨rfl, ⟨nd, rfl⟩⟩))
         go_ret; exact ⟨uE, uB⟩
        ·replace c21 := Bool.eq_false_iff.mpr c21; subst c21; have H1 : (some false) = some r := by rw [if_neg (show ¬ (false = true) by decide)] at H; exact H
         clear H; have H := H1; clear H1; obtain rfl := Option.some.inj H; obtain ⟨hcz25_0, hcz25_1, hcz25_2, hcz25_3⟩ := cz4 BK581.out; obtain ⟨hfz25_0, hfz25_1, hfz25_2, hfz25_3⟩ := fz4 BK581.out
         go_wp2_with (first | ((with_reducible refine gate_callee (f := 57) rfl ?_); refine goesL_ (some 35) rfl rfl Tryz.func57 (by kernel_rfl) rfl #[.agg #[.int .i64 a0_0, .int .i64 a0_1]] rfl uM ?_; (with_reducible refine (quinariaref02_height.calls a0_0 a0_1 true _ A18.out).mono ?_); rintro e w26 ⟨rfl, hb⟩; refine ⟨_, rfl, ?_⟩; replace BK581 := Aside0.mk (blk_below (uK BK581.out) hb); replace HB := Aside0.mk (below_step uB hb); (try clear hb); (try clear hb2); (try clear hk); (try clear hi); obtain ⟨hcz27_0, hcz27_1, hcz27_2, hcz27_3⟩ := cz4 BK581.out; obtain ⟨hfz27_0, hfz27_1, hfz27_2, hfz27_3⟩ := fz4 BK581.out) | (go_at_call 58; (with_reducible refine (quinariaref02_in.calls (l0_2.length : Int) 2 8 false _ A20.out).mono ?_); rintro e w' ⟨rfl, ⟨nd, rfl⟩⟩))
         go_ret; exact ⟨uE, uB⟩
       ·replace c19 := Bool.eq_false_iff.mpr c19; subst c19; have H1 : (some false) = some r := by rw [if_neg (show ¬ (false = true) by decide)] at H; exact H
        clear H; have H := H1; clear H1; obtain rfl := Option.some.inj H; obtain ⟨hcz28_0, hcz28_1, hcz28_2, hcz28_3⟩ := cz4 BK581.out; obtain ⟨hfz28_0, hfz28_1, hfz28_2, hfz28_3⟩ := fz4 BK581.out
        go_wp2_with (first | ((with_reducible refine gate_callee (f := 57) rfl ?_); refine goesL_ (some 35) rfl rfl Tryz.func57 (by kernel_rfl) rfl #[.agg #[.int .i64 a0_0, .int .i64 a0_1]] rfl uM ?_; (with_reducible refine (quinariaref02_height.calls a0_0 a0_1 false _ A18.out).mono ?_); rintro e w29 ⟨rfl, hb⟩; refine ⟨_, rfl, ?_⟩; replace BK581 := Aside0.mk (blk_below (uK BK581.out) hb); replace HB := Aside0.mk (below_step uB hb); (try clear hb); (try clear hb2); (try clear hk); (try clear hi)))
        go_ret; exact ⟨uE, uB⟩
end Go.Proofs.YtdmdahafiiggiabGreatDoor.K
end
section
namespace Go.Proofs.YtdmdahafiiggiabGreatDoor.K
open Go.RowKit Go.Proofs.YtdmdahafiiggiabGreatDoorW.PrintWords Go.Proofs.YtdmdahafiiggiabGreatDoorW.PrintLast Go.Proofs.YtdmdahafiiggiabGreatDoorW.PrintMore
attribute [local go_sem] max2_int min2_int max_two min_two max_three min_three max_four min_four
mutual
def quinarialaw02_heights.j0 : Nat → List Int → Bool → Int → Int → List (S23) → List Int → Option (Bool)
 | 0, _, _, _, _, _, _ => none
 | k + 1, x2, x27, x619000, x619001, x619002, x619003 => if x27 = true then (some false) else (quinarialaw02_heights.l0 k x2 0 x619000 x619001 x619002 x619003)
def quinarialaw02_heights.l0 : Nat → List Int → Int → Int → Int → List (S23) → List Int → Option (Bool)
 | 0, _, _, _, _, _, _ => none
 | k + 1, x2, x7, x619000, x619001, x619002, x619003 => if x7 < (x2.length : Int) then (if 0 ≤ x7 then (if x7 < (x619002.length : Int) then (if (rd x2 x7) < ((rd_T23 x619002 x7).f0) then (some false) else (if (rd x2 x7) > ((rd_T23 x619002 x7).f1) then (some false) else (quinarialaw02_heights.l0 k x2 (wrap64 (x7 + 1)) x619000 x619001 x619002 x619003))) else (none)) else (none)) else (some true)
end
def quinarialaw02_heights.f (k : Nat) (a0_0 : Int) (a0_1 : Int) (l0_2 : List (S23)) (l0_3 : List Int) (a1 : Int) (l2 : List Int) : Option (Bool) := if a1 < a0_0 then (quinarialaw02_heights.j0 k l2 true a0_0 a0_1 l0_2 l0_3) else (if a1 > a0_1 then (quinarialaw02_heights.j0 k l2 true a0_0 a0_1 l0_2 l0_3) else (quinarialaw02_heights.j0 k l2 ((l2.length : Int) != (l0_2.length : Int)) a0_0 a0_1 l0_2 l0_3))
set_option maxHeartbeats 8000000 in
set_option maxRecDepth 100000 in
theorem quinarialaw02_heights.calls (k : Nat) (a0_0 : Int) (a0_1 : Int) (A0_2 : Option Addr) (c0_2 : Nat) (l0_2 : List (S23)) (A0_3 : Option Addr) (c0_3 : Nat) (l0_3 : List Int) (a1 : Int) (A2 : Option Addr) (c2 : Nat) (l2 : List Int) (r : Bool) (w : World) (hr0_2 : Kd.C k23 w A0_2 l0_2.length l0_2) (hc0_2 : l0_2.length ≤ c0_2) (hr0_3 : Kd.C (Kd.int .i64) w A0_3 l0_3.length l0_3) (hc0_3 : l0_3.length ≤ c0_3) (hr2 : Kd.C (Kd.int .i64) w A2 l2.length l2) (hc2 : l2.length ≤ c2) (h : quinarialaw02_heights.f k a0_0 a0_1 l0_2 l0_3 a1 l2 = some r) :
  Calls Tryz.prog 21 #[.agg #[.int .i64 a0_0, .int .i64 a0_1, .slice A0_2 l0_2.length c0_2, .slice A0_3 l0_3.length c0_3], .int .i64 a1, .slice A2 l2.length c2] w fun e w' => e = .returned (.bool r) ∧ Below w.heap.size w w' := by
 have hu27 := Tryz.underlying27; have HR0_2 := Aside0.mk hr0_2; have HC0_2 := Aside0.mk hc0_2; clear hr0_2 hc0_2; have HR0_3 := Aside0.mk hr0_3; have HC0_3 := Aside0.mk hc0_3; clear hr0_3 hc0_3; have HR2 := Aside0.mk hr2; have HC2 := Aside0.mk hc2; clear hr2 hc2; have HB := Aside0.mk (Below.refl w.heap.size w); have H : (if a1 < a0_0 then (quinarialaw02_heights.j0 k l2 true a0_0 a0_1 l0_2 l0_3) else (if a1 > a0_1 then (quinarialaw02_heights.j0 k l2 true a0_0 a0_1 l0_2 l0_3) else (quinarialaw02_heights.j0 k l2 ((l2.length : Int) != (l0_2.length : Int)) a0_0 a0_1 l0_2 l0_3))) = some r := h; clear h; have HC4 := Aside0.mk H; clear H
 go_enter Tryz.func21, Tryz.ntmps21
 go_upto_region 1 with (first | ((with_reducible refine gate_dst (N := 3) rfl ?_); (try (refine gate_guard (by rfl) ?_; dsimp only)); refine bxe 3 #[.int .i64 a0_0, .int .i64 a0_1, .slice A0_2 l0_2.length c0_2, .slice A0_3 l0_3.length c0_3] 27 ?_; intro gb618 hg w5 hbox hb; have n0_ := Aside0.mk (below_step uB hb); have n1_ := Aside0.mk (hbox); have n2_ := gw hg; have n3_ := gw hg; clear HB; have HB := n0_; have BK618 := n1_; have GW618 := n2_; have GE618 := n3_; clear n0_ n1_ n2_ n3_; clear hb hbox hg))
 (repeat (go_quiet (first | ((with_reducible refine gate_dst (N := 3) rfl ?_); (try (refine gate_guard (by rfl) ?_; dsimp only)); refine bxe 3 #[.int .i64 a0_0, .int .i64 a0_1, .slice A0_2 l0_2.length c0_2, .slice A0_3 l0_3.length c0_3] 27 ?_; intro gb618 hg w5 hbox hb; have n0_ := Aside0.mk (below_step uB hb); have n1_ := Aside0.mk (hbox); have n2_ := gw hg; have n3_ := gw hg; clear HB; have HB := n0_; have BK618 := n1_; have GW618 := n2_; have GE618 := n3_; clear n0_ n1_ n2_ n3_; clear hb hbox hg)); go_upto_region 1 with (first | ((with_reducible refine gate_dst (N := 3) rfl ?_); (try (refine gate_guard (by rfl) ?_; dsimp only)); refine bxe 3 #[.int .i64 a0_0, .int .i64 a0_1, .slice A0_2 l0_2.length c0_2, .slice A0_3 l0_3.length c0_3] 27 ?_; intro gb618 hg w5 hbox hb; have n0_ := Aside0.mk (below_step uB hb); have n1_ := Aside0.mk (hbox); have n2_ := gw hg; have n3_ := gw hg; clear HB; have HB := n0_; have BK618 := n1_; have GW618 := n2_; have GE618 := n3_; clear n0_ n1_ n2_ n3_; clear hb hbox hg)))); (try simp only [Act.put, List.setIfInBounds_toArray, List.set_cons_zero, List.set_cons_succ])
 go_cut [27] (fun v27 wc => ∃ (kq : Nat) (x27_3 : Bool), v27 = .bool x27_3 ∧ Aside0 (quinarialaw02_heights.j0 kq l2 x27_3 a0_0 a0_1 l0_2 l0_3 = some r) ∧ Aside0 (kq ≤ k) ∧ Aside0 (wc.heap[gb618]? = some (.cells #[.int .i64 a0_0, .int .i64 a0_1, (.slice A0_2 l0_2.length c0_2), (.slice A0_3 l0_3.length c0_3)] 27 (0, 0))) ∧ Aside0 (Below w.heap.size w wc))
 case first =>
  have H := HC4.out; clear HC4
  by_cases c6 : a1 < a0_0
  ·rw [if_pos c6] at H; replace c6 := decide_eq_true c6; (first | rw [c6b0] | (simp only [i64_w, i32_w]; rw [c6b0]) | skip); have H' := Aside0.mk H; clear H; obtain ⟨hcz7_0, hcz7_1, hcz7_2, hcz7_3⟩ := cz4 BK618.out; obtain ⟨hfz7_0, hfz7_1, hfz7_2, hfz7_3⟩ := fz4 BK618.out; go_wp2; repeat (go_quiet (fail); try go_wp2)
   go_meet
   case rel => exact ⟨_, (true), u0, H', ⟨u1⟩, ⟨uK BK618.out⟩, ⟨uB⟩⟩
  ·rw [if_neg c6] at H; replace c6 := decide_eq_false c6; (first | rw [c6b0] | (simp only [i64_w, i32_w]; rw [c6b0]) | skip)
   by_cases c8 : a1 > a0_1
   ·rw [if_pos c8] at H; replace c8 := decide_eq_true c8; have H' := Aside0.mk H; clear H; obtain ⟨hcz9_0, hcz9_1, hcz9_2, hcz9_3⟩ := cz4 BK618.out; obtain ⟨hfz9_0, hfz9_1, hfz9_2, hfz9_3⟩ := fz4 BK618.out; go_wp2; repeat (go_quiet (fail); try go_wp2)
    go_meet
    case rel => exact ⟨_, (true), u0, H', ⟨u1⟩, ⟨uK BK618.out⟩, ⟨uB⟩⟩
   ·rw [if_neg c8] at H; replace c8 := decide_eq_false c8; have H' := Aside0.mk H; clear H; obtain ⟨hcz10_0, hcz10_1, hcz10_2, hcz10_3⟩ := cz4 BK618.out; obtain ⟨hfz10_0, hfz10_1, hfz10_2, hfz10_3⟩ := fz4 BK618.out; go_wp2; repeat (go_quiet (fail); try go_wp2)
    go_meet
    case rel => exact ⟨_, (((l2.length : Int) != (l0_2.length : Int))), u0, H', ⟨u1⟩, ⟨uK BK618.out⟩, ⟨uB⟩⟩
 case rest =>
  clear HC4; try clear c2; try clear p2; try clear c6; try clear c6b0; try clear c8; try clear c8b0; try clear hcz10_0; try clear hcz10_1; try clear hcz10_2; try clear hcz10_3; try clear hcz7_0; try clear hcz7_1; try clear hcz7_2; try clear hcz7_3; try clear hcz9_0; try clear hcz9_1; try clear hcz9_2; try clear hcz9_3; try clear hfz10_0; try clear hfz10_1; try clear hfz10_2; try clear hfz10_3; try clear hfz7_0; try clear hfz7_1; try clear hfz7_2; try clear hfz7_3; try clear hfz9_0; try clear hfz9_1; try clear hfz9_2; try clear hfz9_3
  obtain ⟨kq, x27_3, rfl, HA, HJ3, BK618, HB⟩ := hcut
  cases kq with
  | zero => exact absurd HA.out (by simp [quinarialaw02_heights.j0])
  | succ kj3 =>
   have H := HA.out; clear HA; simp only [quinarialaw02_heights.j0] at H
   by_cases c11 : x27_3 = true
   ·subst c11; have H1 : (some false) = some r := by rw [if_pos rfl] at H; exact H
    clear H; have H := H1; clear H1; obtain rfl := Option.some.inj H; go_wp2; (repeat (go_quiet (fail); try go_wp2)); go_ret; exact ⟨uE, uB⟩
   ·replace c11 := Bool.eq_false_iff.mpr c11; subst c11; have H1 : (quinarialaw02_heights.l0 kj3 l2 0 a0_0 a0_1 l0_2 l0_3) = some r := by rw [if_neg (show ¬ (false = true) by decide)] at H; exact H
    clear H; have H := H1; clear H1; have H' := Aside0.mk H; clear H; go_wp2; repeat (go_quiet (fail); try go_wp2)
    go_loopg [7] kj3 (fun kq v7 w' => ∃ (x7_2 : Int), v7 = .int .i64 x7_2 ∧ Aside0 (quinarialaw02_heights.l0 kq l2 x7_2 a0_0 a0_1 l0_2 l0_3 = some r) ∧ Aside0 (kq ≤ kj3) ∧ Aside0 (w'.heap[gb618]? = some (.cells #[.int .i64 a0_0, .int .i64 a0_1, (.slice A0_2 l0_2.length c0_2), (.slice A0_3 l0_3.length c0_3)] 27 (0, 0))) ∧ Aside0 (Below w.heap.size w w'))
    case atStart => exact ⟨(0), u0, H', ⟨Nat.le_refl _⟩, ⟨uK BK618.out⟩, ⟨uB⟩⟩
    case round =>
     clear H'; try clear c1; try clear c2; try clear p2; try clear c6; try clear c6b0; try clear c8; try clear c8b0; try clear c11; try clear hcz10_0; try clear hcz10_1; try clear hcz10_2; try clear hcz10_3; try clear hcz7_0; try clear hcz7_1; try clear hcz7_2; try clear hcz7_3; try clear hcz9_0; try clear hcz9_1; try clear hcz9_2; try clear hcz9_3; try clear hfz10_0; try clear hfz10_1; try clear hfz10_2; try clear hfz10_3; try clear hfz7_0; try clear hfz7_1; try clear hfz7_2; try clear hfz7_3; try clear hfz9_0; try clear hfz9_1; try clear hfz9_2; try clear hfz9_3; try clear p2
     obtain ⟨x7_2, rfl, HA, HK2, BK618, HB⟩ := hrel
     cases gk with
     | zero => exact absurd HA.out (by simp [quinarialaw02_heights.l0])
     | succ k2 =>
      have H := HA.out; clear HA; simp only [quinarialaw02_heights.l0] at H
      by_cases c12 : x7_2 < (l2.length : Int)
      ·rw [if_pos c12] at H; replace c12 := decide_eq_true c12; obtain ⟨c13, H⟩ := ifs H; replace c13 := decide_eq_true c13; obtain ⟨c14, H⟩ := ifs H; replace c14 := decide_eq_true c14
       by_cases c15 : (rd l2 x7_2) < ((rd_T23 l0_2 x7_2).f0)
       ·rw [if_pos c15] at H; replace c15 := decide_eq_true c15; obtain rfl := Option.some.inj H; have p619 : 0 ≤ (x7_2 : Int) := uD; have q619 : x7_2 < (l2.length : Int) := uD; obtain ⟨ad619, e619, hx619_0⟩ := Kd.at_int HR2.out x7_2 p619 q619
        cases e619
        replace hx619_0 := hcell HB.out hx619_0; replace p619 := eq_true p619; replace q619 := eq_true q619; obtain ⟨hcz16_0, hcz16_1, hcz16_2, hcz16_3⟩ := cz4 BK618.out; obtain ⟨hfz16_0, hfz16_1, hfz16_2, hfz16_3⟩ := fz4 BK618.out; have p620 : 0 ≤ (x7_2 : Int) := uD; have q620 : x7_2 < (l0_2.length : Int) := uD; obtain ⟨ad620, e620, hx620_0, hx620_1⟩ := at_T23 HR0_2.out x7_2 p620 q620
        cases e620
        replace hx620_0 := hcell HB.out hx620_0; replace hx620_1 := hcell HB.out hx620_1; replace p620 := eq_true p620; replace q620 := eq_true q620; go_wp2; (repeat (go_quiet (fail); try go_wp2)); go_ret; exact ⟨uE, uB⟩
       ·rw [if_neg c15] at H; replace c15 := decide_eq_false c15
        by_cases c17 : (rd l2 x7_2) > ((rd_T23 l0_2 x7_2).f1)
        ·rw [if_pos c17] at H; replace c17 := decide_eq_true c17; obtain rfl := Option.some.inj H; have p619 : 0 ≤ (x7_2 : Int) := uD; have q619 : x7_2 < (l2.length : Int) := uD; obtain ⟨ad619, e619, hx619_0⟩ := Kd.at_int HR2.out x7_2 p619 q619
         cases e619
         replace hx619_0 := hcell HB.out hx619_0; replace p619 := eq_true p619; replace q619 := eq_true q619; obtain ⟨hcz18_0, hcz18_1, hcz18_2, hcz18_3⟩ := cz4 BK618.out; obtain ⟨hfz18_0, hfz18_1, hfz18_2, hfz18_3⟩ := fz4 BK618.out; have p620 : 0 ≤ (x7_2 : Int) := uD; have q620 : x7_2 < (l0_2.length : Int) := uD; obtain ⟨ad620, e620, hx620_0, hx620_1⟩ := at_T23 HR0_2.out x7_2 p620 q620
         cases e620
         replace hx620_0 := hcell HB.out hx620_0; replace hx620_1 := hcell HB.out hx620_1; replace p620 := eq_true p620; replace q620 := eq_true q620; have p621 : 0 ≤ (x7_2 : Int) := uD; have q621 : x7_2 < (l2.length : Int) := uD; obtain ⟨ad621, e621, hx621_0⟩ := Kd.at_int HR2.out x7_2 p621 q621; obtain rfl : ad619 = ad621 := (by injection e621); replace hx621_0 := hcell HB.out hx621_0; replace p621 := eq_true p621; replace q621 := eq_true q621; have p622 : 0 ≤ (x7_2 : Int) := uD; have q622 : x7_2 < (l0_2.length : Int) := uD; obtain ⟨ad622, e622, hx622_0, hx622_1⟩ := at_T23 HR0_2.out x7_2 p622 q622; obtain rfl : ad620 = ad622 := (by injection e622); replace hx622_0 := hcell HB.out hx622_0; replace hx622_1 := hcell HB.out hx622_1; replace p622 := eq_true p622; replace q622 := eq_true q622; go_wp2; (repeat (go_quiet (fail); try go_wp2)); go_ret; exact ⟨uE, uB⟩
        ·rw [if_neg c17] at H; replace c17 := decide_eq_false c17; have H' := Aside0.mk H; clear H; have p619 : 0 ≤ (x7_2 : Int) := uD; have q619 : x7_2 < (l2.length : Int) := uD; obtain ⟨ad619, e619, hx619_0⟩ := Kd.at_int HR2.out x7_2 p619 q619
         cases e619
         replace hx619_0 := hcell HB.out hx619_0; replace p619 := eq_true p619; replace q619 := eq_true q619; obtain ⟨hcz19_0, hcz19_1, hcz19_2, hcz19_3⟩ := cz4 BK618.out; obtain ⟨hfz19_0, hfz19_1, hfz19_2, hfz19_3⟩ := fz4 BK618.out; have p620 : 0 ≤ (x7_2 : Int) := uD; have q620 : x7_2 < (l0_2.length : Int) := uD; obtain ⟨ad620, e620, hx620_0, hx620_1⟩ := at_T23 HR0_2.out x7_2 p620 q620
         cases e620
         replace hx620_0 := hcell HB.out hx620_0; replace hx620_1 := hcell HB.out hx620_1; replace p620 := eq_true p620; replace q620 := eq_true q620; have p621 : 0 ≤ (x7_2 : Int) := uD; have q621 : x7_2 < (l2.length : Int) := uD; obtain ⟨ad621, e621, hx621_0⟩ := Kd.at_int HR2.out x7_2 p621 q621; obtain rfl : ad619 = ad621 := (by injection e621); replace hx621_0 := hcell HB.out hx621_0; replace p621 := eq_true p621; replace q621 := eq_true q621; have p622 : 0 ≤ (x7_2 : Int) := uD; have q622 : x7_2 < (l0_2.length : Int) := uD; obtain ⟨ad622, e622, hx622_0, hx622_1⟩ := at_T23 HR0_2.out x7_2 p622 q622; obtain rfl : ad620 = ad622 := (by injection e622); replace hx622_0 := hcell HB.out hx622_0; replace hx622_1 := hcell HB.out hx622_1; replace p622 := eq_true p622; replace q622 := eq_true q622; go_wp2; repeat (go_quiet (fail); try go_wp2)
         go_roundg k2
         case measure => have := HJ3.out; have := HK2.out; omega
         case rel => exact ⟨(wrap64 (x7_2 + 1)), u0, H', ⟨by have := HJ3.out; have := HK2.out; omega⟩, ⟨uK BK618.out⟩, ⟨uB⟩⟩
      ·rw [if_neg c12] at H; replace c12 := decide_eq_false c12; obtain rfl := Option.some.inj H; go_wp2; (repeat (go_quiet (fail); try go_wp2)); go_ret; exact ⟨uE, uB⟩
end Go.Proofs.YtdmdahafiiggiabGreatDoor.K
end
section
namespace Go.Proofs.YtdmdahafiiggiabGreatDoor.K
open Go.RowKit Go.Proofs.YtdmdahafiiggiabGreatDoorW.PrintWords Go.Proofs.YtdmdahafiiggiabGreatDoorW.PrintLast Go.Proofs.YtdmdahafiiggiabGreatDoorW.PrintMore
attribute [local go_sem] max2_int min2_int max_two min_two max_three min_three max_four min_four
def quinariaref02_Pressure.f (a0 : Int) (a1 : Int) (a2 : Int) : Option (Int) := some (mx (mx 0 (wrap64 (a0 - a1))) (wrap64 (a0 - a2)))
set_option maxHeartbeats 8000000 in
set_option maxRecDepth 100000 in
theorem quinariaref02_Pressure.calls (a0 : Int) (a1 : Int) (a2 : Int) (r : Int) (w : World) (h : quinariaref02_Pressure.f a0 a1 a2 = some r) :
  Calls Tryz.prog 22 #[.int .i64 a0, .int .i64 a1, .int .i64 a2] w fun e w' => e = .returned (.int .i64 r) ∧ Below w.heap.size w w' := by
 have HB := Aside0.mk (Below.refl w.heap.size w); have H : (some (mx (mx 0 (wrap64 (a0 - a1))) (wrap64 (a0 - a2)))) = some r := h; clear h; obtain ⟨ji4, hji4⟩ : ∃ j_ : Int, (mx 0 (wrap64 (a0 - a1))) = j_ := ⟨_, rfl⟩; replace H : (some (mx (ji4) (wrap64 (a0 - a2)))) = some r := by first | (rw [hji4] at H; exact H) | (simp only [hji4] at H ⊢; exact H)
 (try (have hji4l : 0 ≤ ji4 := by (rw [← hji4]; unfold mx; (repeat' split) <;> omega))); (try (have hji4m : 0 ≤ ji4 := by omega)); have hji4_ : (if 0 < (wrap64 (a0 - a1)) then (wrap64 (a0 - a1)) else 0) = ji4 := hji4; obtain ⟨ji5, hji5⟩ : ∃ j_ : Int, (mx (ji4) (wrap64 (a0 - a2))) = j_ := ⟨_, rfl⟩; replace H : (some ji5) = some r := by first | (rw [hji5] at H; exact H) | (simp only [hji5] at H ⊢; exact H)
 have hji5_ : (if (ji4) < (wrap64 (a0 - a2)) then (wrap64 (a0 - a2)) else (ji4)) = ji5 := hji5; obtain rfl := Option.some.inj H
 go_enter Tryz.func22, Tryz.ntmps22
 go_wp2; go_ret; exact ⟨by first | rfl | (simp [errW_none, errW_some] <;> rfl) | (simp only [← hji4, ← hji5]; first | rfl | (simp [errW_none, errW_some] <;> rfl)) | (simp [*, errW_none, errW_some] <;> rfl), uB⟩
end Go.Proofs.YtdmdahafiiggiabGreatDoor.K
end
section
namespace Go.Proofs.YtdmdahafiiggiabGreatDoor.K
open Go.RowKit Go.Proofs.YtdmdahafiiggiabGreatDoorW.PrintWords Go.Proofs.YtdmdahafiiggiabGreatDoorW.PrintLast Go.Proofs.YtdmdahafiiggiabGreatDoorW.PrintMore
attribute [local go_sem] max2_int min2_int max_two min_two max_three min_three max_four min_four
def quinariaref02_Classes.l0 : Nat → List (S53) → Int → Option (Bool)
 | 0, _, _ => none
 | k + 1, x0, x3 => if x3 < (x0.length : Int) then (if 0 ≤ x3 then ((quinariaref02_in.f ((rd_T53 x0 x3).f0) 1 1000).bind fun t655 => (if t655 = true then ((quinariaref02_in.f ((rd_T53 x0 x3).f1) 0 100).bind fun t657 => (if t657 = true then ((quinariaref02_in.f ((rd_T53 x0 x3).f2) 0 1000).bind fun t659 => (if t659 = true then (quinariaref02_Classes.l0 k x0 (wrap64 (x3 + 1))) else (some false))) else (some false))) else (some false))) else (none)) else ((quinariaref02_in.f (x0.length : Int) 1 4).bind fun t653 => (some t653))
def quinariaref02_Classes.f (k : Nat) (l0 : List (S53)) : Option (Bool) := quinariaref02_Classes.l0 k l0 0
set_option maxHeartbeats 8000000 in
set_option maxRecDepth 100000 in
theorem quinariaref02_Classes.calls (k : Nat) (A0 : Option Addr) (c0 : Nat) (l0 : List (S53)) (r : Bool) (w : World) (hr0 : Kd.C k53 w A0 l0.length l0) (hc0 : l0.length ≤ c0) (h : quinariaref02_Classes.f k l0 = some r) :
  Calls Tryz.prog 24 #[.slice A0 l0.length c0] w fun e w' => e = .returned (.bool r) ∧ Drawn0 w w' := by
 have HR0 := Aside0.mk hr0; have HC0 := Aside0.mk hc0; clear hr0 hc0; have H : (quinariaref02_Classes.l0 k l0 0) = some r := h; clear h; have H' := Aside0.mk H; clear H
 go_enter Tryz.func24, Tryz.ntmps24
 go_wp2
 go_loopg [3] k (fun kq v3 w' => ∃ (x3_1 : Int), v3 = .int .i64 x3_1 ∧ Aside0 (quinariaref02_Classes.l0 kq l0 x3_1 = some r) ∧ Aside0 (kq ≤ k) ∧ Drawn0 w w')
 case atStart => exact ⟨(0), u0, H', ⟨Nat.le_refl _⟩, by repeat (first | exact Drawn0.refl _ | apply Drawn0.step)⟩
 case round =>
  clear H'; obtain ⟨x3_1, rfl, HA, HK1, ⟨m1, rfl⟩⟩ := hrel
  cases gk with
  | zero => exact absurd HA.out (by simp [quinariaref02_Classes.l0])
  | succ k1 =>
   have H := HA.out; clear HA; simp only [quinariaref02_Classes.l0] at H
   by_cases c2 : x3_1 < (l0.length : Int)
   ·rw [if_pos c2] at H; replace c2 := decide_eq_true c2; obtain ⟨c3, H⟩ := ifs H; replace c3 := decide_eq_true c3; replace H := Option.bind_eq_some_iff.mp H; obtain ⟨t655, A40, H⟩ := H; replace H : (if t655 = true then ((quinariaref02_in.f ((rd_T53 l0 x3_1).f1) 0 100).bind fun t657 => (if t657 = true then ((quinariaref02_in.f ((rd_T53 l0 x3_1).f2) 0 1000).bind fun t659 => (if t659 = true then (quinariaref02_Classes.l0 k1 l0 (wrap64 (x3_1 + 1))) else (some false))) else (some false))) else (some false)) = some r := H; have A4 := Aside0.mk A40; clear A40
    by_cases c5 : t655 = true
    ·subst c5; have H1 : ((quinariaref02_in.f ((rd_T53 l0 x3_1).f1) 0 100).bind fun t657 => (if t657 = true then ((quinariaref02_in.f ((rd_T53 l0 x3_1).f2) 0 1000).bind fun t659 => (if t659 = true then (quinariaref02_Classes.l0 k1 l0 (wrap64 (x3_1 + 1))) else (some false))) else (some false))) = some r := by rw [if_pos rfl] at H; exact H
     clear H; have H := H1; clear H1; replace H := Option.bind_eq_some_iff.mp H; obtain ⟨t657, A60, H⟩ := H; replace H : (if t657 = true then ((quinariaref02_in.f ((rd_T53 l0 x3_1).f2) 0 1000).bind fun t659 => (if t659 = true then (quinariaref02_Classes.l0 k1 l0 (wrap64 (x3_1 + 1))) else (some false))) else (some false)) = some r := H; have A6 := Aside0.mk A60; clear A60
     by_cases c7 : t657 = true
     ·subst c7; have H1 : ((quinariaref02_in.f ((rd_T53 l0 x3_1).f2) 0 1000).bind fun t659 => (if t659 = true then (quinariaref02_Classes.l0 k1 l0 (wrap64 (x3_1 + 1))) else (some false))) = some r := by rw [if_pos rfl] at H; exact H
      clear H; have H := H1; clear H1; replace H := Option.bind_eq_some_iff.mp H; obtain ⟨t659, A80, H⟩ := H; replace H : (if t659 = true then (quinariaref02_Classes.l0 k1 l0 (wrap64 (x3_1 + 1))) else (some false)) = some r := H; have A8 := Aside0.mk A80; clear A80
      by_cases c9 : t659 = true
      ·subst c9; have H1 : (quinariaref02_Classes.l0 k1 l0 (wrap64 (x3_1 + 1))) = some r := by rw [if_pos rfl] at H; exact H
       clear H; have H := H1; clear H1; have H' := Aside0.mk H; clear H; have p654 : 0 ≤ (x3_1 : Int) := uD; have q654 : x3_1 < (l0.length : Int) := uD; obtain ⟨ad654, e654, hx654_0, hx654_1, hx654_2⟩ := at_T53 HR0.out x3_1 p654 q654
       cases e654
       replace p654 := eq_true p654; replace q654 := eq_true q654
       go_wp2_with (first | ((with_reducible refine gate_callee (f := 58) rfl ?_); refine goesL_ (some 15) rfl rfl Tryz.func58 (by kernel_rfl) rfl #[.int .i64 ((rd_T53 l0 x3_1).f0), .int .i64 1, .int .i64 1000] rfl uM ?_; (with_reducible refine (quinariaref02_in.calls ((rd_T53 l0 x3_1).f0) 1 1000 true _ A4.out).mono ?_); rintro e w' ⟨rfl, ⟨nd, rfl⟩⟩; refine ⟨_, rfl, ?_⟩; have p656 : 0 ≤ (x3_1 : Int) := uD; have q656 : x3_1 < (l0.length : Int) := uD; obtain ⟨ad656, e656, hx656_0, hx656_1, hx656_2⟩ := at_T53 HR0.out x3_1 p656 q656; obtain rfl : ad654 = ad656 := (by injection e656); replace p656 := eq_true p656; replace q656 := eq_true q656) | (go_at_call 58; (with_reducible refine (quinariaref02_in.calls ((rd_T53 l0 x3_1).f1) 0 100 true _ A6.out).mono ?_); rintro e w' ⟨rfl, ⟨nd, rfl⟩⟩; have p658 : 0 ≤ (x3_1 : Int) := uD; have q658 : x3_1 < (l0.length : Int) := uD; obtain ⟨ad658, e658, hx658_0, hx658_1, hx658_2⟩ := at_T53 HR0.out x3_1 p658 q658; obtain rfl : ad654 = ad658 := (by injection e658); replace p658 := eq_true p658; replace q658 := eq_true q658) | (go_at_call 58; (with_reducible refine (quinariaref02_in.calls ((rd_T53 l0 x3_1).f2) 0 1000 true _ A8.out).mono ?_); rintro e w' ⟨rfl, ⟨nd, rfl⟩⟩))
       go_roundg k1
       case measure => have := HK1.out; omega
       case rel => exact ⟨(wrap64 (x3_1 + 1)), u0, H', ⟨by have := HK1.out; omega⟩, by repeat (first | exact Drawn0.refl _ | apply Drawn0.step)⟩
      ·replace c9 := Bool.eq_false_iff.mpr c9; subst c9; have H1 : (some false) = some r := by rw [if_neg (show ¬ (false = true) by decide)] at H; exact H
       clear H; have H := H1; clear H1; obtain rfl := Option.some.inj H; have p654 : 0 ≤ (x3_1 : Int) := uD; have q654 : x3_1 < (l0.length : Int) := uD; obtain ⟨ad654, e654, hx654_0, hx654_1, hx654_2⟩ := at_T53 HR0.out x3_1 p654 q654
       cases e654
       replace p654 := eq_true p654; replace q654 := eq_true q654
       go_wp2_with (first | ((with_reducible refine gate_callee (f := 58) rfl ?_); refine goesL_ (some 15) rfl rfl Tryz.func58 (by kernel_rfl) rfl #[.int .i64 ((rd_T53 l0 x3_1).f0), .int .i64 1, .int .i64 1000] rfl uM ?_; (with_reducible refine (quinariaref02_in.calls ((rd_T53 l0 x3_1).f0) 1 1000 true _ A4.out).mono ?_); rintro e w' ⟨rfl, ⟨nd, rfl⟩⟩; refine ⟨_, rfl, ?_⟩; have p656 : 0 ≤ (x3_1 : Int) := uD; have q656 : x3_1 < (l0.length : Int) := uD; obtain ⟨ad656, e656, hx656_0, hx656_1, hx656_2⟩ := at_T53 HR0.out x3_1 p656 q656; obtain rfl : ad654 = ad656 := (by injection e656); replace p656 := eq_true p656; replace q656 := eq_true q656) | (go_at_call 58; (with_reducible refine (quinariaref02_in.calls ((rd_T53 l0 x3_1).f1) 0 100 true _ A6.out).mono ?_); rintro e w' ⟨rfl, ⟨nd, rfl⟩⟩; have p658 : 0 ≤ (x3_1 : Int) := uD; have q658 : x3_1 < (l0.length : Int) := uD; obtain ⟨ad658, e658, hx658_0, hx658_1, hx658_2⟩ := at_T53 HR0.out x3_1 p658 q658; obtain rfl : ad654 = ad658 := (by injection e658); replace p658 := eq_true p658; replace q658 := eq_true q658) | (go_at_call 58; (with_reducible refine (quinariaref02_in.calls ((rd_T53 l0 x3_1).f2) 0 1000 false _ A8.out).mono ?_); rintro e w' ⟨rfl, ⟨nd, rfl⟩⟩))
       go_ret; exact ⟨u0, by repeat (first | exact Drawn0.refl _ | apply Drawn0.step)⟩
     ·replace c7 := Bool.eq_false_iff.mpr c7; subst c7; have H1 : (some false) = some r := by rw [if_neg (show ¬ (false = true) by decide)] at H; exact H
      clear H; have H := H1; clear H1; obtain rfl := Option.some.inj H; have p654 : 0 ≤ (x3_1 : Int) := uD; have q654 : x3_1 < (l0.length : Int) := uD; obtain ⟨ad654, e654, hx654_0, hx654_1, hx654_2⟩ := at_T53 HR0.out x3_1 p654 q654
      cases e654
      replace p654 := eq_true p654; replace q654 := eq_true q654
      go_wp2_with (first | ((with_reducible refine gate_callee (f := 58) rfl ?_); refine goesL_ (some 15) rfl rfl Tryz.func58 (by kernel_rfl) rfl #[.int .i64 ((rd_T53 l0 x3_1).f0), .int .i64 1, .int .i64 1000] rfl uM ?_; (with_reducible refine (quinariaref02_in.calls ((rd_T53 l0 x3_1).f0) 1 1000 true _ A4.out).mono ?_); rintro e w' ⟨rfl, ⟨nd, rfl⟩⟩; refine ⟨_, rfl, ?_⟩; have p656 : 0 ≤ (x3_1 : Int) := uD; have q656 : x3_1 < (l0.length : Int) := uD; obtain ⟨ad656, e656, hx656_0, hx656_1, hx656_2⟩ := at_T53 HR0.out x3_1 p656 q656; obtain rfl : ad654 = ad656 := (by injection e656); replace p656 := eq_true p656; replace q656 := eq_true q656) | (go_at_call 58; (with_reducible refine (quinariaref02_in.calls ((rd_T53 l0 x3_1).f1) 0 100 false _ A6.out).mono ?_); rintro e w' ⟨rfl, ⟨nd, rfl⟩⟩))
      go_ret; exact ⟨u0, by repeat (first | exact Drawn0.refl _ | apply Drawn0.step)⟩
    ·replace c5 := Bool.eq_false_iff.mpr c5; subst c5; have H1 : (some false) = some r := by rw [if_neg (show ¬ (false = true) by decide)] at H; exact H
     clear H; have H := H1; clear H1; obtain rfl := Option.some.inj H; have p654 : 0 ≤ (x3_1 : Int) := uD; have q654 : x3_1 < (l0.length : Int) := uD; obtain ⟨ad654, e654, hx654_0, hx654_1, hx654_2⟩ := at_T53 HR0.out x3_1 p654 q654
     cases e654
     replace p654 := eq_true p654; replace q654 := eq_true q654
     go_wp2_with (first | ((with_reducible refine gate_callee (f := 58) rfl ?_); refine goesL_ (some 15) rfl rfl Tryz.func58 (by kernel_rfl) rfl #[.int .i64 ((rd_T53 l0 x3_1).f0), .int .i64 1, .int .i64 1000] rfl uM ?_; (with_reducible refine (quinariaref02_in.calls ((rd_T53 l0 x3_1).f0) 1 1000 false _ A4.out).mono ?_); rintro e w' ⟨rfl, ⟨nd, rfl⟩⟩; refine ⟨_, rfl, ?_⟩))
     go_ret; exact ⟨u0, by repeat (first | exact Drawn0.refl _ | apply Drawn0.step)⟩
   ·rw [if_neg c2] at H; replace c2 := decide_eq_false c2; replace H := Option.bind_eq_some_iff.mp H; obtain ⟨t653, A100, H⟩ := H; replace H : (some t653) = some r := H; have A10 := Aside0.mk A100; clear A100; obtain rfl := Option.some.inj H
    go_wp2_with (first | ((with_reducible refine gate_callee (f := 58) rfl ?_); refine goesL_ (some 37) rfl rfl Tryz.func58 (by kernel_rfl) rfl #[.int .i64 (l0.length : Int), .int .i64 1, .int .i64 4] rfl uM ?_; (with_reducible refine (quinariaref02_in.calls (l0.length : Int) 1 4 t653 _ A10.out).mono ?_); rintro e w' ⟨rfl, ⟨nd, rfl⟩⟩; refine ⟨_, rfl, ?_⟩))
    go_ret; exact ⟨u0, by repeat (first | exact Drawn0.refl _ | apply Drawn0.step)⟩
end Go.Proofs.YtdmdahafiiggiabGreatDoor.K
end
section
namespace Go.Proofs.YtdmdahafiiggiabGreatDoor.K
open Go.RowKit Go.Proofs.YtdmdahafiiggiabGreatDoorW.PrintWords Go.Proofs.YtdmdahafiiggiabGreatDoorW.PrintLast Go.Proofs.YtdmdahafiiggiabGreatDoorW.PrintMore
attribute [local go_sem] max2_int min2_int max_two min_two max_three min_three max_four min_four
def quinariaref02_Chosen.l0 : Nat → List (S53) → List Int → Int → Int → Int → List (S23) → List Int → Option (Bool)
 | 0, _, _, _, _, _, _, _ => none
 | k + 1, x1, x2, x7, x661000, x661001, x661002, x661003 => if x7 < (x2.length : Int) then (if 0 ≤ x7 then ((quinariaref02_in.f (rd x2 x7) 0 (wrap64 ((x1.length : Int) - 1))).bind fun t662 => (if t662 = true then (quinariaref02_Chosen.l0 k x1 x2 (wrap64 (x7 + 1)) x661000 x661001 x661002 x661003) else (some false))) else (none)) else (some ((x2.length : Int) == (x661003.length : Int)))
def quinariaref02_Chosen.f (k : Nat) (a0_0 : Int) (a0_1 : Int) (l0_2 : List (S23)) (l0_3 : List Int) (l1 : List (S53)) (l2 : List Int) : Option (Bool) := quinariaref02_Chosen.l0 k l1 l2 0 a0_0 a0_1 l0_2 l0_3
set_option maxHeartbeats 8000000 in
set_option maxRecDepth 100000 in
theorem quinariaref02_Chosen.calls (k : Nat) (a0_0 : Int) (a0_1 : Int) (A0_2 : Option Addr) (c0_2 : Nat) (l0_2 : List (S23)) (A0_3 : Option Addr) (c0_3 : Nat) (l0_3 : List Int) (A1 : Option Addr) (c1 : Nat) (l1 : List (S53)) (A2 : Option Addr) (c2 : Nat) (l2 : List Int) (r : Bool) (w : World) (hr0_2 : Kd.C k23 w A0_2 l0_2.length l0_2) (hc0_2 : l0_2.length ≤ c0_2) (hr0_3 : Kd.C (Kd.int .i64) w A0_3 l0_3.length l0_3) (hc0_3 : l0_3.length ≤ c0_3) (hr1 : Kd.C k53 w A1 l1.length l1) (hc1 : l1.length ≤ c1) (hr2 : Kd.C (Kd.int .i64) w A2 l2.length l2) (hc2 : l2.length ≤ c2) (h : quinariaref02_Chosen.f k a0_0 a0_1 l0_2 l0_3 l1 l2 = some r) :
  Calls Tryz.prog 25 #[.agg #[.int .i64 a0_0, .int .i64 a0_1, .slice A0_2 l0_2.length c0_2, .slice A0_3 l0_3.length c0_3], .slice A1 l1.length c1, .slice A2 l2.length c2] w fun e w' => e = .returned (.bool r) ∧ Below w.heap.size w w' := by
 have hu27 := Tryz.underlying27; have HR0_2 := Aside0.mk hr0_2; have HC0_2 := Aside0.mk hc0_2; clear hr0_2 hc0_2; have HR0_3 := Aside0.mk hr0_3; have HC0_3 := Aside0.mk hc0_3; clear hr0_3 hc0_3; have HR1 := Aside0.mk hr1; have HC1 := Aside0.mk hc1; clear hr1 hc1; have HR2 := Aside0.mk hr2; have HC2 := Aside0.mk hc2; clear hr2 hc2; have HB := Aside0.mk (Below.refl w.heap.size w); have H : (quinariaref02_Chosen.l0 k l1 l2 0 a0_0 a0_1 l0_2 l0_3) = some r := h; clear h; have H' := Aside0.mk H; clear H
 go_enter Tryz.func25, Tryz.ntmps25
 go_wp2_with (first | ((with_reducible refine gate_dst (N := 3) rfl ?_); refine bxe 3 #[.int .i64 a0_0, .int .i64 a0_1, .slice A0_2 l0_2.length c0_2, .slice A0_3 l0_3.length c0_3] 27 ?_; intro gb660 hg w4 hbox hb; have n0_ := Aside0.mk (below_step uB hb); have n1_ := Aside0.mk (hbox); have n2_ := gw hg; have n3_ := gw hg; clear HB; have HB := n0_; have BK660 := n1_; have GW660 := n2_; have GE660 := n3_; clear n0_ n1_ n2_ n3_; clear hb hbox hg))
 go_loopg [7] k (fun kq v7 w' => ∃ (x7_1 : Int), v7 = .int .i64 x7_1 ∧ Aside0 (quinariaref02_Chosen.l0 kq l1 l2 x7_1 a0_0 a0_1 l0_2 l0_3 = some r) ∧ Aside0 (kq ≤ k) ∧ Aside0 (w'.heap[gb660]? = some (.cells #[.int .i64 a0_0, .int .i64 a0_1, (.slice A0_2 l0_2.length c0_2), (.slice A0_3 l0_3.length c0_3)] 27 (0, 0))) ∧ Aside0 (Below w.heap.size w w'))
 case atStart => exact ⟨(0), u0, H', ⟨Nat.le_refl _⟩, ⟨uK BK660.out⟩, ⟨uB⟩⟩
 case round =>
  clear H'; try clear c1; try clear c2; try clear p2
  obtain ⟨x7_1, rfl, HA, HK1, BK660, HB⟩ := hrel
  cases gk with
  | zero => exact absurd HA.out (by simp [quinariaref02_Chosen.l0])
  | succ k1 =>
   have H := HA.out; clear HA; simp only [quinariaref02_Chosen.l0] at H
   by_cases c5 : x7_1 < (l2.length : Int)
   ·rw [if_pos c5] at H; replace c5 := decide_eq_true c5; obtain ⟨c6, H⟩ := ifs H; replace c6 := decide_eq_true c6; replace H := Option.bind_eq_some_iff.mp H; obtain ⟨t662, A70, H⟩ := H; replace H : (if t662 = true then (quinariaref02_Chosen.l0 k1 l1 l2 (wrap64 (x7_1 + 1)) a0_0 a0_1 l0_2 l0_3) else (some false)) = some r := H; have A7 := Aside0.mk A70; clear A70
    by_cases c8 : t662 = true
    ·subst c8; have H1 : (quinariaref02_Chosen.l0 k1 l1 l2 (wrap64 (x7_1 + 1)) a0_0 a0_1 l0_2 l0_3) = some r := by rw [if_pos rfl] at H; exact H
     clear H; have H := H1; clear H1; have H' := Aside0.mk H; clear H; have p661 : 0 ≤ (x7_1 : Int) := uD; have q661 : x7_1 < (l2.length : Int) := uD; obtain ⟨ad661, e661, hx661_0⟩ := Kd.at_int HR2.out x7_1 p661 q661
     cases e661
     replace hx661_0 := hcell HB.out hx661_0; replace p661 := eq_true p661; replace q661 := eq_true q661
     go_wp2_with (first | ((with_reducible refine gate_callee (f := 58) rfl ?_); refine goesL_ (some 21) rfl rfl Tryz.func58 (by kernel_rfl) rfl #[.int .i64 (rd l2 x7_1), .int .i64 0, .int .i64 (wrap64 ((l1.length : Int) - 1))] rfl uM ?_; (with_reducible refine (quinariaref02_in.calls (rd l2 x7_1) 0 (wrap64 ((l1.length : Int) - 1)) true _ A7.out).mono ?_); rintro e w' ⟨rfl, ⟨nd, rfl⟩⟩; refine ⟨_, rfl, ?_⟩))
     go_roundg k1
     case measure => have := HK1.out; omega
     case rel => exact ⟨(wrap64 (x7_1 + 1)), u0, H', ⟨by have := HK1.out; omega⟩, ⟨uK BK660.out⟩, ⟨uB⟩⟩
    ·replace c8 := Bool.eq_false_iff.mpr c8; subst c8; have H1 : (some false) = some r := by rw [if_neg (show ¬ (false = true) by decide)] at H; exact H
     clear H; have H := H1; clear H1; obtain rfl := Option.some.inj H; have p661 : 0 ≤ (x7_1 : Int) := uD; have q661 : x7_1 < (l2.length : Int) := uD; obtain ⟨ad661, e661, hx661_0⟩ := Kd.at_int HR2.out x7_1 p661 q661
     cases e661
     replace hx661_0 := hcell HB.out hx661_0; replace p661 := eq_true p661; replace q661 := eq_true q661
     go_wp2_with (first | ((with_reducible refine gate_callee (f := 58) rfl ?_); refine goesL_ (some 21) rfl rfl Tryz.func58 (by kernel_rfl) rfl #[.int .i64 (rd l2 x7_1), .int .i64 0, .int .i64 (wrap64 ((l1.length : Int) - 1))] rfl uM ?_; (with_reducible refine (quinariaref02_in.calls (rd l2 x7_1) 0 (wrap64 ((l1.length : Int) - 1)) false _ A7.out).mono ?_); rintro e w' ⟨rfl, ⟨nd, rfl⟩⟩; refine ⟨_, rfl, ?_⟩))
     go_ret; exact ⟨uE, uB⟩
   ·rw [if_neg c5] at H; replace c5 := decide_eq_false c5; obtain rfl := Option.some.inj H; obtain ⟨hcz9_0, hcz9_1, hcz9_2, hcz9_3⟩ := cz4 BK660.out; obtain ⟨hfz9_0, hfz9_1, hfz9_2, hfz9_3⟩ := fz4 BK660.out; go_wp2; go_ret; exact ⟨uE, uB⟩
end Go.Proofs.YtdmdahafiiggiabGreatDoor.K
end
section
namespace Go.Proofs.YtdmdahafiiggiabGreatDoor.K
open Go.RowKit Go.Proofs.YtdmdahafiiggiabGreatDoorW.PrintWords Go.Proofs.YtdmdahafiiggiabGreatDoorW.PrintLast Go.Proofs.YtdmdahafiiggiabGreatDoorW.PrintMore
theorem uC {p q : Prop} (h : p) (k : p → q := by intro h_; repeat (first | exact h_ | (with_reducible refine Kd.C_alloc ?_ _) | (with_reducible refine Kd.C_drewN ?_ _) | (with_reducible refine Kd.C_drew ?_))) : q := k h
section
variable {P : Program} {ops : Array Oper} {Q : Exit → Act → World → Prop} {md : Region.Mode} {S : World → Prop} {ds : List Nat} {oi : Oper} {fuel : Nat} {l : Array Bool} {a a' : Act} {w : World}
theorem pd (i N n m : Nat) (h : wpAnyLast P md ops Q S ds fuel (bl n m) a' w) (hi : ops[i]? = some oi := by exact rfl) (hN : oi.dst = some N := by exact rfl) (hc : anyB md ops l (bl n m) i = true := by first | exact any_of HT_.out (by kernel_rfl) | kernel_rfl)
  (hQ : ∀ c a w, Q (.panic c) (a.put oi.dst undef) w → Q (.panic c) a w := by exact fun _ _ _ h => h) (hy : Yields P ops oi undef a := by exact Or.inr ⟨by rfl, rfl⟩)
  (ha : a.put (some N) undef = a' := by (simp only [Act.put, List.setIfInBounds_toArray, List.set_cons_zero, List.set_cons_succ, i64_w, i32_w]; rfl)) : wpAnyLast P md ops Q S ds (fuel + 1) l a w := pure_ (bl n m) hi hN hc hQ hy ha h
end
end Go.Proofs.YtdmdahafiiggiabGreatDoor.K
end
