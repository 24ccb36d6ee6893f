/- ChannelHeights: the walk of the law, and what it comes to. -/
import Derived.Test.YtdmdahafiiggiabGreatDoorLChannelHeights
set_option linter.unusedVariables false
set_option linter.unusedSimpArgs false
section
namespace Go.Proofs.YtdmdahafiiggiabGreatDoor.K
open Go.RowKit Go.Proofs.YtdmdahafiiggiabGreatDoorW.PrintWords Go.Proofs.YtdmdahafiiggiabGreatDoorW.PrintLast Go.Proofs.YtdmdahafiiggiabGreatDoorW.PrintMore
attribute [local go_sem] max2_int min2_int max_two min_two max_three min_three max_four min_four
mutual
def quinarialaw02_ChannelHeights.j0 : Nat → Int → List Int → Bool → Int → Int → List (S23) → List Int → Option (Bool)
 | 0, _, _, _, _, _, _, _ => none
 | k + 1, x1, x2, x33, x624000, x624001, x624002, x624003 => if x33 = true then ((quinarialaw02_known.f k).bind fun t627 => (some t627)) else ((channel_Pressures.f k x624000 x624001 x624002 x624003).bind fun bt628 => ((channel_Flows.f x624000 x624001 x624002 x624003).bind fun bt632 => (if bt628.2 = 0 then (if (bt628.1.length : Int) = (x624003.length : Int) then (quinarialaw02_ChannelHeights.j1 k x1 x2 bt628.1 bt632.1 (bt632.2 != 0) x624000 x624001 x624002 x624003) else (quinarialaw02_ChannelHeights.j1 k x1 x2 bt628.1 bt632.1 true x624000 x624001 x624002 x624003)) else (quinarialaw02_ChannelHeights.j1 k x1 x2 bt628.1 bt632.1 true x624000 x624001 x624002 x624003))))
def quinarialaw02_ChannelHeights.j1 : Nat → Int → List Int → List (S23) → Int → Bool → Int → Int → List (S23) → List Int → Option (Bool)
 | 0, _, _, _, _, _, _, _, _, _ => none
 | k + 1, x1, x2, x7, x9, x58, x624000, x624001, x624002, x624003 => if x58 = true then (some false) else (quinarialaw02_ChannelHeights.l0 k x1 x2 x7 x9 0 x624000 x624001 x624002 x624003)
def quinarialaw02_ChannelHeights.l0 : Nat → Int → List Int → List (S23) → Int → Int → Int → Int → List (S23) → List Int → Option (Bool)
 | 0, _, _, _, _, _, _, _, _, _ => none
 | k + 1, x1, x2, x7, x9, x11, x624000, x624001, x624002, x624003 => if x11 < (x7.length : Int) then (if 0 ≤ x11 then (if x11 < (x624002.length : Int) then (if 0 ≤ (wrap64 (x11 + 1)) then (if (wrap64 (x11 + 1)) < (x624002.length : Int) then (if x11 < (x2.length : Int) then (if (wrap64 (x11 + 1)) < (x2.length : Int) then ((quinariaref02_Pressure.f x1 (rd x2 x11) (rd x2 (wrap64 (x11 + 1)))).bind fun t640 => (if t640 < ((rd_T23 x7 x11).f0) then (some false) else (if t640 > ((rd_T23 x7 x11).f1) then (some false) else ((quinariaref02_Pressure.f x624001 ((rd_T23 x624002 x11).f0) ((rd_T23 x624002 (wrap64 (x11 + 1))).f0)).bind fun t644 => (if ((rd_T23 x7 x11).f1) = t644 then ((quinariaref02_Pressure.f x624000 ((rd_T23 x624002 x11).f1) ((rd_T23 x624002 (wrap64 (x11 + 1))).f1)).bind fun t646 => (if ((rd_T23 x7 x11).f0) = t646 then (quinarialaw02_ChannelHeights.l0 k x1 x2 x7 x9 (wrap64 (x11 + 1)) x624000 x624001 x624002 x624003) else (some false))) else (some false)))))) else (none)) else (none)) else (none)) else (none)) else (none)) else (none)) else (if 0 ≤ (wrap64 ((x2.length : Int) - 1)) then (if (wrap64 ((x2.length : Int) - 1)) < (x2.length : Int) then (if (wrap64 ((x2.length : Int) - 1)) < (x624002.length : Int) then (if x9 = 2 then (if x624001 > ((rd_T23 x624002 (wrap64 ((x2.length : Int) - 1))).f0) then (if (x624000 > ((rd_T23 x624002 (wrap64 ((x2.length : Int) - 1))).f1)) then (some false) else ((quinarialaw02_known.f k).bind fun t650 => (some t650))) else (some false)) else (if x9 = 3 then (if ((decide (x1 > (rd x2 (wrap64 ((x2.length : Int) - 1))))) == (x9 == 3)) = true then ((quinarialaw02_known.f k).bind fun t651 => (some t651)) else (some false)) else (if x9 = 1 then (if ((decide (x1 > (rd x2 (wrap64 ((x2.length : Int) - 1))))) == (x9 == 3)) = true then ((quinarialaw02_known.f k).bind fun t652 => (some t652)) else (some false)) else (some false)))) else (none)) else (none)) else (none))
end
def quinarialaw02_ChannelHeights.f (k : Nat) (a0_0 : Int) (a0_1 : Int) (l0_2 : List (S23)) (l0_3 : List Int) (a1 : Int) (l2 : List Int) : Option (Bool) := (quinarialaw02_slim.f a0_0 a0_1 l0_2 l0_3 ([] : List (S53))).bind fun t624 => (if t624 = true then ((quinariaref02_Siphon.f k a0_0 a0_1 l0_2 l0_3).bind fun t625 => (if t625 = true then ((quinarialaw02_heights.f k a0_0 a0_1 l0_2 l0_3 a1 l2).bind fun t626 => (quinarialaw02_ChannelHeights.j0 k a1 l2 (!t626) a0_0 a0_1 l0_2 l0_3)) else (quinarialaw02_ChannelHeights.j0 k a1 l2 true a0_0 a0_1 l0_2 l0_3))) else (quinarialaw02_ChannelHeights.j0 k a1 l2 true a0_0 a0_1 l0_2 l0_3))
def quinarialaw02_ChannelHeights.T10 : Bool × List (List Nat × List Nat) := (true, [([], []), ([0], [0]), ([], []), ([1, 2], [1, 2]), ([3], [3]), ([], []), ([5], [5]), ([], []), ([7], [7]), ([6, 8], [6, 8]), ([9], [9]), ([], []), ([], []), ([11, 4, 0, 1, 2, 3, 4, 11, 12], [4, 11]), ([12, 10, 13, 0, 1, 2, 3, 4, 5, 6, 7, 8, 9, 10, 11, 12, 13], [10, 12])])
def quinarialaw02_ChannelHeights.B10 : List Nat := [0, 1, 0, 7, 15, 0, 32, 0, 128, 480, 992, 0, 0, 6175, 16383]
theorem quinarialaw02_ChannelHeights.tab10 : rtab .any (opsOf Tryz.f4 10) = quinarialaw02_ChannelHeights.T10 := by kernel_rfl
theorem quinarialaw02_ChannelHeights.bits10 : waitsOk quinarialaw02_ChannelHeights.T10.2 quinarialaw02_ChannelHeights.B10 = true := by kernel_rfl
def quinarialaw02_ChannelHeights.T11 : Bool × List (List Nat × List Nat) := (true, [([], []), ([], []), ([], []), ([1, 2], [1, 2]), ([3], [3]), ([], []), ([], []), ([6], [6]), ([5, 7], [5, 7]), ([8], [8]), ([0, 4, 9], [0, 4, 9]), ([10, 10, 0, 1, 2, 3, 4, 5, 6, 7, 8, 9, 10], [10])])
def quinarialaw02_ChannelHeights.B11 : List Nat := [0, 0, 0, 6, 14, 0, 0, 64, 224, 480, 1023, 2047]
theorem quinarialaw02_ChannelHeights.tab11 : rtab .any (opsOf Tryz.f4 11) = quinarialaw02_ChannelHeights.T11 := by kernel_rfl
theorem quinarialaw02_ChannelHeights.bits11 : waitsOk quinarialaw02_ChannelHeights.T11.2 quinarialaw02_ChannelHeights.B11 = true := by kernel_rfl
def quinarialaw02_ChannelHeights.T12 : Bool × List (List Nat × List Nat) := (true, [([], []), ([], []), ([], []), ([1, 2], [1, 2]), ([3], [3]), ([4], [4]), ([0, 5], [0, 5]), ([6], [6]), ([7], [7]), ([7], [7]), ([7], [7]), ([9, 10, 7], [7, 9, 10]), ([11, 7], [7, 11]), ([12, 7], [7, 12]), ([8, 13, 7], [7, 8, 13]), ([7, 14], [7, 14]), ([15, 7], [15]), ([16], [16]), ([16], [16]), ([17, 18, 16], [16, 17, 18]), ([19, 16], [16, 19]), ([20, 16], [16, 20]), ([16], [16]), ([22, 16], [16, 22]), ([23, 16], [16, 23]), ([16], [16]), ([25, 16], [16, 25]), ([16], [16]), ([27, 16], [16, 27]), ([24, 26, 28, 16, 16], [16, 24, 26, 28]), ([21, 29, 16], [16, 21, 29]), ([16, 30], [16, 30]), ([31, 29], [31]), ([32], [32]), ([32], [32]), ([33, 34, 32], [32, 33, 34]), ([35, 32], [32, 35]), ([36, 32], [32, 36]), ([32], [32]), ([38, 32], [32, 38]), ([39, 32], [32, 39]), ([32], [32]), ([41, 32], [32, 41]), ([32], [32]), ([43, 32], [32, 43]), ([40, 42, 44, 32, 32], [32, 40, 42, 44]), ([37, 45, 32], [32, 37, 45]), ([32, 46], [32, 46])])
def quinarialaw02_ChannelHeights.B12 : List Nat := [0, 0, 0, 6, 14, 30, 63, 127, 255, 255, 255, 1791, 3839, 7935, 16383, 32767, 65535, 131071, 131071, 524287, 1048575, 2097151, 131071, 4325375, 12713983, 131071, 33685503, 131071, 134348799, 532807679, 1073741823, 2147483647, 4294967295, 8589934591, 8589934591, 34359738367, 68719476735, 137438953471, 8589934591, 283467841535, 833223655423, 8589934591, 2207613190143, 8589934591, 8804682956799, 34918084116479, 70368744177663, 140737488355327]
theorem quinarialaw02_ChannelHeights.tab12 : rtab .any (opsOf Tryz.f4 12) = quinarialaw02_ChannelHeights.T12 := by kernel_rfl
theorem quinarialaw02_ChannelHeights.bits12 : waitsOk quinarialaw02_ChannelHeights.T12.2 quinarialaw02_ChannelHeights.B12 = true := by kernel_rfl
def quinarialaw02_ChannelHeights.T16 : Bool × List (List Nat × List Nat) := (true, [([], []), ([0], [0]), ([1], [1]), ([], []), ([3], [3]), ([], []), ([4, 5], [4, 5]), ([6], [6]), ([7], [7]), ([2, 8], [2, 8]), ([], []), ([10], [10]), ([11], [11]), ([], []), ([13], [13]), ([], []), ([14, 15], [14, 15]), ([16], [16]), ([17], [17]), ([12, 18], [12, 18]), ([9, 0, 1, 2, 3, 4, 5, 6, 7, 8, 9], [9]), ([19, 20, 0, 1, 2, 3, 4, 5, 6, 7, 8, 9, 10, 11, 12, 13, 14, 15, 16, 17, 18, 19, 20], [19])])
def quinarialaw02_ChannelHeights.B16 : List Nat := [0, 1, 3, 0, 8, 0, 56, 120, 248, 511, 0, 1024, 3072, 0, 8192, 0, 57344, 122880, 253952, 523264, 1023, 2097151]
theorem quinarialaw02_ChannelHeights.tab16 : rtab .any (opsOf Tryz.f4 16) = quinarialaw02_ChannelHeights.T16 := by kernel_rfl
theorem quinarialaw02_ChannelHeights.bits16 : waitsOk quinarialaw02_ChannelHeights.T16.2 quinarialaw02_ChannelHeights.B16 = true := by kernel_rfl
set_option maxHeartbeats 8000000 in
set_option maxRecDepth 100000 in
theorem quinarialaw02_ChannelHeights.calls (k : Nat) (a0_0 : Int) (a0_1 : Int) (A0_2 : Option Addr) (c0_2 : Nat) (l0_2 : List (S23)) (A0_3 : Option Addr) (c0_3 : Nat) (l0_3 : List Int) (a1 : Int) (A2 : Option Addr) (c2 : Nat) (l2 : List Int) (r : Bool) (w : World) (hr0_2 : Kd.C k23 w A0_2 l0_2.length l0_2) (hc0_2 : l0_2.length ≤ c0_2) (hr0_3 : Kd.C (Kd.int .i64) w A0_3 l0_3.length l0_3) (hc0_3 : l0_3.length ≤ c0_3) (hr2 : Kd.C (Kd.int .i64) w A2 l2.length l2) (hc2 : l2.length ≤ c2) (hT : TabW w) (h : quinarialaw02_ChannelHeights.f k a0_0 a0_1 l0_2 l0_3 a1 l2 = some r) :
  Calls Tryz.prog 4 #[.agg #[.int .i64 a0_0, .int .i64 a0_1, .slice A0_2 l0_2.length c0_2, .slice A0_3 l0_3.length c0_3], .int .i64 a1, .slice A2 l2.length c2] w fun e w' => e = .returned (.bool r) ∧ Below w.heap.size w w' := by
 have HT := Aside0.mk hT
 clear hT
 have hu27 := Tryz.underlying27
 have hu23 := Tryz.underlying23
 have HR0_2 := Aside0.mk hr0_2
 have HC0_2 := Aside0.mk hc0_2
 clear hr0_2 hc0_2
 have HR0_3 := Aside0.mk hr0_3
 have HC0_3 := Aside0.mk hc0_3
 clear hr0_3 hc0_3
 have HR2 := Aside0.mk hr2
 have HC2 := Aside0.mk hc2
 clear hr2 hc2
 have HB := Aside0.mk (Below.refl w.heap.size w)
 have H : ((quinarialaw02_slim.f a0_0 a0_1 l0_2 l0_3 ([] : List (S53))).bind fun t624 => (if t624 = true then ((quinariaref02_Siphon.f k a0_0 a0_1 l0_2 l0_3).bind fun t625 => (if t625 = true then ((quinarialaw02_heights.f k a0_0 a0_1 l0_2 l0_3 a1 l2).bind fun t626 => (quinarialaw02_ChannelHeights.j0 k a1 l2 (!t626) a0_0 a0_1 l0_2 l0_3)) else (quinarialaw02_ChannelHeights.j0 k a1 l2 true a0_0 a0_1 l0_2 l0_3))) else (quinarialaw02_ChannelHeights.j0 k a1 l2 true a0_0 a0_1 l0_2 l0_3))) = some r := h
 clear h
 have HC4 := Aside0.mk H
 clear H
 go_enter Tryz.func4, Tryz.ntmps4
 go_upto_region 1 with (first | ((with_reducible refine gate_dst (N := 3) rfl ?_); (try (refine gate_guard (by rfl) ?_; dsimp only)); refine bxe 3 #[.int .i64 a0_0, .int .i64 a0_1, .slice A0_2 l0_2.length c0_2, .slice A0_3 l0_3.length c0_3] 27 ?_; intro gb623 hg w5 hbox hb; have n0_ := Aside0.mk (below_step uB hb); have n1_ := Aside0.mk (hbox); have n2_ := gw hg; have n3_ := gw hg; clear HB; have HB := n0_; have BK623 := n1_; have GW623 := n2_; have GE623 := n3_; clear n0_ n1_ n2_ n3_; clear hb hbox hg))
 (try simp only [Act.put, List.setIfInBounds_toArray, List.set_cons_zero, List.set_cons_succ])
 go_cut [33] (fun v33 wc => ∃ (kq : Nat) (x33_3 : Bool), v33 = .bool x33_3 ∧ Aside0 (quinarialaw02_ChannelHeights.j0 kq a1 l2 x33_3 a0_0 a0_1 l0_2 l0_3 = some r) ∧ Aside0 (kq ≤ k) ∧ Aside0 (wc.heap[gb623]? = some (.cells #[.int .i64 a0_0, .int .i64 a0_1, (.slice A0_2 l0_2.length c0_2), (.slice A0_3 l0_3.length c0_3)] 27 (0, 0))) ∧ Aside0 (Below w.heap.size w wc))
 case first =>
  as_aux_lemma =>
   have H := HC4.out
   clear HC4
   replace H := Option.bind_eq_some_iff.mp H
   obtain ⟨t624, A60, H⟩ := H
   replace H : (if t624 = true then ((quinariaref02_Siphon.f k a0_0 a0_1 l0_2 l0_3).bind fun t625 => (if t625 = true then ((quinarialaw02_heights.f k a0_0 a0_1 l0_2 l0_3 a1 l2).bind fun t626 => (quinarialaw02_ChannelHeights.j0 k a1 l2 (!t626) a0_0 a0_1 l0_2 l0_3)) else (quinarialaw02_ChannelHeights.j0 k a1 l2 true a0_0 a0_1 l0_2 l0_3))) else (quinarialaw02_ChannelHeights.j0 k a1 l2 true a0_0 a0_1 l0_2 l0_3)) = some r := H
   have A6 := Aside0.mk A60
   clear A60
   by_cases c7 : t624 = true
   ·subst c7
    have H1 : ((quinariaref02_Siphon.f k a0_0 a0_1 l0_2 l0_3).bind fun t625 => (if t625 = true then ((quinarialaw02_heights.f k a0_0 a0_1 l0_2 l0_3 a1 l2).bind fun t626 => (quinarialaw02_ChannelHeights.j0 k a1 l2 (!t626) a0_0 a0_1 l0_2 l0_3)) else (quinarialaw02_ChannelHeights.j0 k a1 l2 true a0_0 a0_1 l0_2 l0_3))) = some r := by rw [if_pos rfl] at H; exact H
    clear H
    have H := H1
    clear H1
    replace H := Option.bind_eq_some_iff.mp H
    obtain ⟨t625, A80, H⟩ := H
    replace H : (if t625 = true then ((quinarialaw02_heights.f k a0_0 a0_1 l0_2 l0_3 a1 l2).bind fun t626 => (quinarialaw02_ChannelHeights.j0 k a1 l2 (!t626) a0_0 a0_1 l0_2 l0_3)) else (quinarialaw02_ChannelHeights.j0 k a1 l2 true a0_0 a0_1 l0_2 l0_3)) = some r := H
    have A8 := Aside0.mk A80
    clear A80
    by_cases c9 : t625 = true
    ·subst c9
     have H1 : ((quinarialaw02_heights.f k a0_0 a0_1 l0_2 l0_3 a1 l2).bind fun t626 => (quinarialaw02_ChannelHeights.j0 k a1 l2 (!t626) a0_0 a0_1 l0_2 l0_3)) = some r := by rw [if_pos rfl] at H; exact H
     clear H
     have H := H1
     clear H1
     replace H := Option.bind_eq_some_iff.mp H
     obtain ⟨t626, A100, H⟩ := H
     replace H : (quinarialaw02_ChannelHeights.j0 k a1 l2 (!t626) a0_0 a0_1 l0_2 l0_3) = some r := H
     have A10 := Aside0.mk A100
     clear A100
     have H' := Aside0.mk H
     clear H
     obtain ⟨hcz11_0, hcz11_1, hcz11_2, hcz11_3⟩ := cz4 BK623.out
     obtain ⟨hfz11_0, hfz11_1, hfz11_2, hfz11_3⟩ := fz4 BK623.out
     go_wp2_with (first | ((with_reducible refine gate_callee (f := 13) rfl ?_); refine goesL_ (some 20) rfl rfl Tryz.func13 (by kernel_rfl) rfl #[.agg #[.int .i64 a0_0, .int .i64 a0_1, .slice A0_2 l0_2.length c0_2, .slice A0_3 l0_3.length c0_3], .slice none 0 0] rfl uM ?_; (refine (quinarialaw02_slim.calls a0_0 a0_1 _ _ l0_2 _ _ l0_3 _ _ ([] : List (S53)) true _ ?side1 ?side2 ?side3 ?side4 ?side5 ?side6 A6.out).mono ?_); (case side1 => exact uC (Kd.C_below HR0_2.out HB.out)); (case side2 => exact HC0_2.out); (case side3 => exact uC (Kd.C_below HR0_3.out HB.out)); (case side4 => exact HC0_3.out); (case side5 => exact Kd.C_nil _ _); (case side6 => exact Nat.le_refl _); rintro e w12 ⟨rfl, hb⟩; refine ⟨_, rfl, ?_⟩; replace BK623 := Aside0.mk (blk_below (uK BK623.out) hb); replace HB := Aside0.mk (below_step uB hb); (try clear hb); (try clear hb2); (try clear hk); (try clear hi); obtain ⟨hcz13_0, hcz13_1, hcz13_2, hcz13_3⟩ := cz4 BK623.out; obtain ⟨hfz13_0, hfz13_1, hfz13_2, hfz13_3⟩ := fz4 BK623.out) | (go_at_call 17; (with_reducible refine (quinariaref02_Siphon.calls k a0_0 a0_1 _ _ l0_2 _ _ l0_3 true _ ?side1 ?side2 ?side3 ?side4 A8.out).mono ?_); (case side1 => exact uC (Kd.C_below HR0_2.out HB.out)); (case side2 => exact HC0_2.out); (case side3 => exact uC (Kd.C_below HR0_3.out HB.out)); (case side4 => exact HC0_3.out); rintro e w14 ⟨rfl, hb⟩; replace BK623 := Aside0.mk (blk_below (uK BK623.out) hb); replace HB := Aside0.mk (below_step uB hb); (try clear hb); (try clear hb2); (try clear hk); (try clear hi); obtain ⟨hcz15_0, hcz15_1, hcz15_2, hcz15_3⟩ := cz4 BK623.out; obtain ⟨hfz15_0, hfz15_1, hfz15_2, hfz15_3⟩ := fz4 BK623.out) | (go_at_call 21; (with_reducible refine (quinarialaw02_heights.calls k a0_0 a0_1 _ _ l0_2 _ _ l0_3 a1 _ _ l2 t626 _ ?side1 ?side2 ?side3 ?side4 ?side5 ?side6 A10.out).mono ?_); (case side1 => exact uC (Kd.C_below HR0_2.out HB.out)); (case side2 => exact HC0_2.out); (case side3 => exact uC (Kd.C_below HR0_3.out HB.out)); (case side4 => exact HC0_3.out); (case side5 => exact uC (Kd.C_below HR2.out HB.out)); (case side6 => exact HC2.out); rintro e w16 ⟨rfl, hb⟩; replace BK623 := Aside0.mk (blk_below (uK BK623.out) hb); replace HB := Aside0.mk (below_step uB hb); (try clear hb); (try clear hb2); (try clear hk); (try clear hi)))
     go_meet
     case rel => exact ⟨_, (!t626), u0, H', ⟨u1⟩, ⟨uK BK623.out⟩, ⟨uB⟩⟩
    ·replace c9 := Bool.eq_false_iff.mpr c9
     subst c9
     have H1 : (quinarialaw02_ChannelHeights.j0 k a1 l2 true a0_0 a0_1 l0_2 l0_3) = some r := by rw [if_neg (show ¬ (false = true) by decide)] at H; exact H
     clear H
     have H := H1
     clear H1
     have H' := Aside0.mk H
     clear H
     obtain ⟨hcz17_0, hcz17_1, hcz17_2, hcz17_3⟩ := cz4 BK623.out
     obtain ⟨hfz17_0, hfz17_1, hfz17_2, hfz17_3⟩ := fz4 BK623.out
     go_wp2_with (first | ((with_reducible refine gate_callee (f := 13) rfl ?_); refine goesL_ (some 20) rfl rfl Tryz.func13 (by kernel_rfl) rfl #[.agg #[.int .i64 a0_0, .int .i64 a0_1, .slice A0_2 l0_2.length c0_2, .slice A0_3 l0_3.length c0_3], .slice none 0 0] rfl uM ?_; (refine (quinarialaw02_slim.calls a0_0 a0_1 _ _ l0_2 _ _ l0_3 _ _ ([] : List (S53)) true _ ?side1 ?side2 ?side3 ?side4 ?side5 ?side6 A6.out).mono ?_); (case side1 => exact uC (Kd.C_below HR0_2.out HB.out)); (case side2 => exact HC0_2.out); (case side3 => exact uC (Kd.C_below HR0_3.out HB.out)); (case side4 => exact HC0_3.out); (case side5 => exact Kd.C_nil _ _); (case side6 => exact Nat.le_refl _); rintro e w18 ⟨rfl, hb⟩; refine ⟨_, rfl, ?_⟩; replace BK623 := Aside0.mk (blk_below (uK BK623.out) hb); replace HB := Aside0.mk (below_step uB hb); (try clear hb); (try clear hb2); (try clear hk); (try clear hi); obtain ⟨hcz19_0, hcz19_1, hcz19_2, hcz19_3⟩ := cz4 BK623.out; obtain ⟨hfz19_0, hfz19_1, hfz19_2, hfz19_3⟩ := fz4 BK623.out) | (go_at_call 17; (with_reducible refine (quinariaref02_Siphon.calls k a0_0 a0_1 _ _ l0_2 _ _ l0_3 false _ ?side1 ?side2 ?side3 ?side4 A8.out).mono ?_); (case side1 => exact uC (Kd.C_below HR0_2.out HB.out)); (case side2 => exact HC0_2.out); (case side3 => exact uC (Kd.C_below HR0_3.out HB.out)); (case side4 => exact HC0_3.out); rintro e w20 ⟨rfl, hb⟩; replace BK623 := Aside0.mk (blk_below (uK BK623.out) hb); replace HB := Aside0.mk (below_step uB hb); (try clear hb); (try clear hb2); (try clear hk); (try clear hi)))
     go_meet
     case rel => exact ⟨_, (true), u0, H', ⟨u1⟩, ⟨uK BK623.out⟩, ⟨uB⟩⟩
   ·replace c7 := Bool.eq_false_iff.mpr c7
    subst c7
    have H1 : (quinarialaw02_ChannelHeights.j0 k a1 l2 true a0_0 a0_1 l0_2 l0_3) = some r := by rw [if_neg (show ¬ (false = true) by decide)] at H; exact H
    clear H
    have H := H1
    clear H1
    have H' := Aside0.mk H
    clear H
    obtain ⟨hcz21_0, hcz21_1, hcz21_2, hcz21_3⟩ := cz4 BK623.out
    obtain ⟨hfz21_0, hfz21_1, hfz21_2, hfz21_3⟩ := fz4 BK623.out
    go_wp2_with (first | ((with_reducible refine gate_callee (f := 13) rfl ?_); refine goesL_ (some 20) rfl rfl Tryz.func13 (by kernel_rfl) rfl #[.agg #[.int .i64 a0_0, .int .i64 a0_1, .slice A0_2 l0_2.length c0_2, .slice A0_3 l0_3.length c0_3], .slice none 0 0] rfl uM ?_; (refine (quinarialaw02_slim.calls a0_0 a0_1 _ _ l0_2 _ _ l0_3 _ _ ([] : List (S53)) false _ ?side1 ?side2 ?side3 ?side4 ?side5 ?side6 A6.out).mono ?_); (case side1 => exact uC (Kd.C_below HR0_2.out HB.out)); (case side2 => exact HC0_2.out); (case side3 => exact uC (Kd.C_below HR0_3.out HB.out)); (case side4 => exact HC0_3.out); (case side5 => exact Kd.C_nil _ _); (case side6 => exact Nat.le_refl _); rintro e w22 ⟨rfl, hb⟩; refine ⟨_, rfl, ?_⟩; replace BK623 := Aside0.mk (blk_below (uK BK623.out) hb); replace HB := Aside0.mk (below_step uB hb); (try clear hb); (try clear hb2); (try clear hk); (try clear hi)))
    go_meet
    case rel => exact ⟨_, (true), u0, H', ⟨u1⟩, ⟨uK BK623.out⟩, ⟨uB⟩⟩
 case rest =>
  as_aux_lemma =>
   clear HC4; try clear c1; try clear c2; try clear p2; try clear c4; try clear c7; try clear c9; try clear c13; try clear hcz11_0; try clear hcz11_1; try clear hcz11_2; try clear hcz11_3; try clear hcz13_0; try clear hcz13_1; try clear hcz13_2; try clear hcz13_3; try clear hcz15_0; try clear hcz15_1; try clear hcz15_2; try clear hcz15_3; try clear hcz17_0; try clear hcz17_1; try clear hcz17_2; try clear hcz17_3; try clear hcz19_0; try clear hcz19_1; try clear hcz19_2; try clear hcz19_3; try clear hcz21_0; try clear hcz21_1; try clear hcz21_2; try clear hcz21_3; try clear hfz11_0; try clear hfz11_1; try clear hfz11_2; try clear hfz11_3; try clear hfz13_0; try clear hfz13_1; try clear hfz13_2; try clear hfz13_3; try clear hfz15_0; try clear hfz15_1; try clear hfz15_2; try clear hfz15_3; try clear hfz17_0; try clear hfz17_1; try clear hfz17_2; try clear hfz17_3; try clear hfz19_0; try clear hfz19_1; try clear hfz19_2; try clear hfz19_3; try clear hfz21_0; try clear hfz21_1; try clear hfz21_2; try clear hfz21_3
   obtain ⟨kq, x33_3, rfl, HA, HJ3, BK623, HB⟩ := hcut
   cases kq with
   | zero => exact absurd HA.out (by simp [quinarialaw02_ChannelHeights.j0])
   | succ kj3 =>
    have H := HA.out
    clear HA
    simp only [quinarialaw02_ChannelHeights.j0] at H
    by_cases c23 : x33_3 = true
    ·subst c23
     have H1 : ((quinarialaw02_known.f kj3).bind fun t627 => (some t627)) = some r := by rw [if_pos rfl] at H; exact H
     clear H
     have H := H1
     clear H1
     replace H := Option.bind_eq_some_iff.mp H
     obtain ⟨t627, A240, H⟩ := H
     replace H : (some t627) = some r := H
     have A24 := Aside0.mk A240
     clear A240
     obtain rfl := Option.some.inj H
     go_wp2_with (first | ((with_reducible refine gate_callee (f := 14) rfl ?_); refine goesL_ (some 34) rfl rfl Tryz.func14 (by kernel_rfl) rfl #[] rfl uM ?_; (with_reducible refine (quinarialaw02_known.calls kj3  t627 _ ?sideT A24.out).mono ?_); (case sideT => exact HT.out.below uB); rintro e w25 ⟨rfl, hb⟩; refine ⟨_, rfl, ?_⟩; replace BK623 := Aside0.mk (blk_below (uK BK623.out) hb); replace HB := Aside0.mk (below_step uB hb); (try clear hb); (try clear hb2); (try clear hk); (try clear hi)))
     go_ret
     exact ⟨uE, uB⟩
    ·as_aux_lemma =>
      replace c23 := Bool.eq_false_iff.mpr c23
      subst c23
      have H1 : ((channel_Pressures.f kj3 a0_0 a0_1 l0_2 l0_3).bind fun bt628 => ((channel_Flows.f a0_0 a0_1 l0_2 l0_3).bind fun bt632 => (if bt628.2 = 0 then (if (bt628.1.length : Int) = (l0_3.length : Int) then (quinarialaw02_ChannelHeights.j1 kj3 a1 l2 bt628.1 bt632.1 (bt632.2 != 0) a0_0 a0_1 l0_2 l0_3) else (quinarialaw02_ChannelHeights.j1 kj3 a1 l2 bt628.1 bt632.1 true a0_0 a0_1 l0_2 l0_3)) else (quinarialaw02_ChannelHeights.j1 kj3 a1 l2 bt628.1 bt632.1 true a0_0 a0_1 l0_2 l0_3)))) = some r := by rw [if_neg (show ¬ (false = true) by decide)] at H; exact H
      clear H
      have H := H1
      clear H1
      replace H := Option.bind_eq_some_iff.mp H
      obtain ⟨⟨t628, t631⟩, A260, H⟩ := H
      replace H : ((channel_Flows.f a0_0 a0_1 l0_2 l0_3).bind fun bt632 => (if t631 = 0 then (if (t628.length : Int) = (l0_3.length : Int) then (quinarialaw02_ChannelHeights.j1 kj3 a1 l2 t628 bt632.1 (bt632.2 != 0) a0_0 a0_1 l0_2 l0_3) else (quinarialaw02_ChannelHeights.j1 kj3 a1 l2 t628 bt632.1 true a0_0 a0_1 l0_2 l0_3)) else (quinarialaw02_ChannelHeights.j1 kj3 a1 l2 t628 bt632.1 true a0_0 a0_1 l0_2 l0_3))) = some r := H
      have A26 := Aside0.mk A260
      clear A260
      replace H := Option.bind_eq_some_iff.mp H
      obtain ⟨⟨t632, t633⟩, A270, H⟩ := H
      replace H : (if t631 = 0 then (if (t628.length : Int) = (l0_3.length : Int) then (quinarialaw02_ChannelHeights.j1 kj3 a1 l2 t628 t632 (t633 != 0) a0_0 a0_1 l0_2 l0_3) else (quinarialaw02_ChannelHeights.j1 kj3 a1 l2 t628 t632 true a0_0 a0_1 l0_2 l0_3)) else (quinarialaw02_ChannelHeights.j1 kj3 a1 l2 t628 t632 true a0_0 a0_1 l0_2 l0_3)) = some r := H
      have A27 := Aside0.mk A270
      clear A270
      have HC28 := Aside0.mk H
      clear H
      obtain ⟨hcz29_0, hcz29_1, hcz29_2, hcz29_3⟩ := cz4 BK623.out
      obtain ⟨hfz29_0, hfz29_1, hfz29_2, hfz29_3⟩ := fz4 BK623.out
      go_upto_region 5 with (first | ((with_reducible refine gate_callee (f := 15) rfl ?_); refine goesL_ (some 37) rfl rfl Tryz.func15 (by kernel_rfl) rfl #[.agg #[.int .i64 a0_0, .int .i64 a0_1, .slice A0_2 l0_2.length c0_2, .slice A0_3 l0_3.length c0_3]] rfl uM ?_; (with_reducible refine (channel_Pressures.calls kj3 a0_0 a0_1 _ _ l0_2 _ _ l0_3 t628 t631 _ ?side1 ?side2 ?side3 ?side4 A26.out).mono ?_); (case side1 => exact uC (Kd.C_below HR0_2.out HB.out)); (case side2 => exact HC0_2.out); (case side3 => exact uC (Kd.C_below HR0_3.out HB.out)); (case side4 => exact HC0_3.out); rintro e w30 ⟨v629, rfl, ho0, hb⟩; refine ⟨_, rfl, ?_⟩; have HO630 := Aside0.mk (Kd.R_lower ho0 (below_size uB)); replace BK623 := Aside0.mk (blk_below (uK BK623.out) hb); replace HB := Aside0.mk (below_step uB hb); (try clear hb); (try clear hb2); (try clear hk); (try clear hi); (try clear ho0); obtain ⟨hcz31_0, hcz31_1, hcz31_2, hcz31_3⟩ := cz4 BK623.out; obtain ⟨hfz31_0, hfz31_1, hfz31_2, hfz31_3⟩ := fz4 BK623.out) | ((with_reducible refine gate_callee (f := 16) rfl ?_); refine goesL_ (some 42) rfl rfl Tryz.func16 (by kernel_rfl) rfl #[.agg #[.int .i64 a0_0, .int .i64 a0_1, .slice A0_2 l0_2.length c0_2, .slice A0_3 l0_3.length c0_3]] rfl uM ?_; (with_reducible refine (channel_Flows.calls a0_0 a0_1 _ _ l0_2 _ _ l0_3 t632 t633 _ ?side1 ?side2 ?side3 ?side4 A27.out).mono ?_); (case side1 => exact uC (Kd.C_below HR0_2.out HB.out)); (case side2 => exact HC0_2.out); (case side3 => exact uC (Kd.C_below HR0_3.out HB.out)); (case side4 => exact HC0_3.out); rintro e w32 ⟨rfl, hb⟩; refine ⟨_, rfl, ?_⟩; replace HO630 := Aside0.mk (Kd.R_below (uR HO630.out) hb); replace BK623 := Aside0.mk (blk_below (uK BK623.out) hb); replace HB := Aside0.mk (below_step uB hb); (try clear hb); (try clear hb2); (try clear hk); (try clear hi)))
      (try simp only [Act.put, List.setIfInBounds_toArray, List.set_cons_zero, List.set_cons_succ])
      go_cut [58] (fun v58 wc => ∃ (kq : Nat) (x58_27 : Bool), v58 = .bool x58_27 ∧ Aside0 (quinarialaw02_ChannelHeights.j1 kq a1 l2 t628 t632 x58_27 a0_0 a0_1 l0_2 l0_3 = some r) ∧ Aside0 (kq ≤ kj3) ∧ Aside0 (Kd.R k23 23 wc w.heap.size (fun _ => True) v629 t628) ∧ Aside0 (wc.heap[gb623]? = some (.cells #[.int .i64 a0_0, .int .i64 a0_1, (.slice A0_2 l0_2.length c0_2), (.slice A0_3 l0_3.length c0_3)] 27 (0, 0))) ∧ Aside0 (Below w.heap.size w wc))
      case first =>
       as_aux_lemma =>
        have H := HC28.out
        clear HC28
        by_cases c33 : t631 = 0
        ·rw [if_pos c33] at H
         have c33b0 : (t631 == 0) = true := beq_iff_eq.mpr c33
         have c33b1 : (t631 != 0) = false := bne_eq_false_iff_eq.mpr c33
         clear c33
         (first | rw [c33b0] | (simp only [i64_w, i32_w]; rw [c33b0]) | skip)
         by_cases c34 : (t628.length : Int) = (l0_3.length : Int)
         ·rw [if_pos c34] at H
          have c34b0 : ((t628.length : Int) == (l0_3.length : Int)) = true := beq_iff_eq.mpr c34
          have c34b1 : ((t628.length : Int) != (l0_3.length : Int)) = false := bne_eq_false_iff_eq.mpr c34
          have c34b2 : (t628.length == l0_3.length) = true := by first | simpa using c34 | (simp at c34 ⊢; omega)
          clear c34
          have H' := Aside0.mk H
          clear H
          obtain ⟨Ao35, co35, eo35⟩ := Kd.R_slice HO630.out
          subst eo35
          obtain ⟨hcz36_0, hcz36_1, hcz36_2, hcz36_3⟩ := cz4 BK623.out
          obtain ⟨hfz36_0, hfz36_1, hfz36_2, hfz36_3⟩ := fz4 BK623.out
          go_wp2
          go_meet
          case rel => exact ⟨_, ((t633 != 0)), u0, H', ⟨by have := HJ3.out; first | omega | exact Nat.le_refl _⟩, ⟨uR HO630.out⟩, ⟨uK BK623.out⟩, ⟨uB⟩⟩
         ·rw [if_neg c34] at H
          have c34b0 : ((t628.length : Int) == (l0_3.length : Int)) = false := beq_eq_false_iff_ne.mpr c34
          have c34b1 : ((t628.length : Int) != (l0_3.length : Int)) = true := bne_iff_ne.mpr c34
          have c34b2 : (t628.length == l0_3.length) = false := by first | simpa using c34 | (simp at c34 ⊢; omega)
          have H' := Aside0.mk H
          clear H
          obtain ⟨Ao37, co37, eo37⟩ := Kd.R_slice HO630.out
          subst eo37
          obtain ⟨hcz38_0, hcz38_1, hcz38_2, hcz38_3⟩ := cz4 BK623.out
          obtain ⟨hfz38_0, hfz38_1, hfz38_2, hfz38_3⟩ := fz4 BK623.out
          go_wp2
          go_meet
          case rel => exact ⟨_, (true), u0, H', ⟨by have := HJ3.out; first | omega | exact Nat.le_refl _⟩, ⟨uR HO630.out⟩, ⟨uK BK623.out⟩, ⟨uB⟩⟩
        ·rw [if_neg c33] at H
         have c33b0 : (t631 == 0) = false := beq_eq_false_iff_ne.mpr c33
         have c33b1 : (t631 != 0) = true := bne_iff_ne.mpr c33
         (first | rw [c33b0] | (simp only [i64_w, i32_w]; rw [c33b0]) | skip)
         have H' := Aside0.mk H
         clear H
         go_wp2
         go_meet
         case rel => exact ⟨_, (true), u0, H', ⟨by have := HJ3.out; first | omega | exact Nat.le_refl _⟩, ⟨uR HO630.out⟩, ⟨uK BK623.out⟩, ⟨uB⟩⟩
      case rest =>
       as_aux_lemma =>
        clear HC28; try clear c1; try clear c2; try clear p2; try clear c3; try clear c4; try clear c7; try clear c9; try clear c13; try clear c14; try clear c15; try clear c16; try clear c23; try clear c33; try clear c33b0; try clear c33b1; try clear c34; try clear c34b0; try clear c34b1; try clear c34b2; try clear hcz11_0; try clear hcz11_1; try clear hcz11_2; try clear hcz11_3; try clear hcz13_0; try clear hcz13_1; try clear hcz13_2; try clear hcz13_3; try clear hcz15_0; try clear hcz15_1; try clear hcz15_2; try clear hcz15_3; try clear hcz17_0; try clear hcz17_1; try clear hcz17_2; try clear hcz17_3; try clear hcz19_0; try clear hcz19_1; try clear hcz19_2; try clear hcz19_3; try clear hcz21_0; try clear hcz21_1; try clear hcz21_2; try clear hcz21_3; try clear hcz29_0; try clear hcz29_1; try clear hcz29_2; try clear hcz29_3; try clear hcz31_0; try clear hcz31_1; try clear hcz31_2; try clear hcz31_3; try clear hcz36_0; try clear hcz36_1; try clear hcz36_2; try clear hcz36_3; try clear hcz38_0; try clear hcz38_1; try clear hcz38_2; try clear hcz38_3; try clear hfz11_0; try clear hfz11_1; try clear hfz11_2; try clear hfz11_3; try clear hfz13_0; try clear hfz13_1; try clear hfz13_2; try clear hfz13_3; try clear hfz15_0; try clear hfz15_1; try clear hfz15_2; try clear hfz15_3; try clear hfz17_0; try clear hfz17_1; try clear hfz17_2; try clear hfz17_3; try clear hfz19_0; try clear hfz19_1; try clear hfz19_2; try clear hfz19_3; try clear hfz21_0; try clear hfz21_1; try clear hfz21_2; try clear hfz21_3; try clear hfz29_0; try clear hfz29_1; try clear hfz29_2; try clear hfz29_3; try clear hfz31_0; try clear hfz31_1; try clear hfz31_2; try clear hfz31_3; try clear hfz36_0; try clear hfz36_1; try clear hfz36_2; try clear hfz36_3; try clear hfz38_0; try clear hfz38_1; try clear hfz38_2; try clear hfz38_3; try clear p2
        obtain ⟨kq, x58_27, rfl, HA, HJ27, HO_7, BK623, HB⟩ := hcut
        cases kq with
        | zero => exact absurd HA.out (by simp [quinarialaw02_ChannelHeights.j1])
        | succ kj27 =>
         have H := HA.out
         clear HA
         simp only [quinarialaw02_ChannelHeights.j1] at H
         by_cases c39 : x58_27 = true
         ·subst c39
          have H1 : (some false) = some r := by rw [if_pos rfl] at H; exact H
          clear H
          have H := H1
          clear H1
          obtain rfl := Option.some.inj H
          go_wp2
          go_ret
          exact ⟨uE, uB⟩
         ·as_aux_lemma =>
           replace c39 := Bool.eq_false_iff.mpr c39
           subst c39
           have H1 : (quinarialaw02_ChannelHeights.l0 kj27 a1 l2 t628 t632 0 a0_0 a0_1 l0_2 l0_3) = some r := by rw [if_neg (show ¬ (false = true) by decide)] at H; exact H
           clear H
           have H := H1
           clear H1
           have H' := Aside0.mk H
           clear H
           go_wp2
           go_loopg [11] kj27 (fun kq v11 w' => ∃ (x11_3 : Int), v11 = .int .i64 x11_3 ∧ Aside0 (quinarialaw02_ChannelHeights.l0 kq a1 l2 t628 t632 x11_3 a0_0 a0_1 l0_2 l0_3 = some r) ∧ Aside0 (kq ≤ kj27) ∧ Aside0 (Kd.R k23 23 w' w.heap.size (fun _ => True) v629 t628) ∧ Aside0 (w'.heap[gb623]? = some (.cells #[.int .i64 a0_0, .int .i64 a0_1, (.slice A0_2 l0_2.length c0_2), (.slice A0_3 l0_3.length c0_3)] 27 (0, 0))) ∧ Aside0 (Below w.heap.size w w'))
           case atStart => exact ⟨(0), u0, H', ⟨Nat.le_refl _⟩, ⟨uR HO_7.out⟩, ⟨uK BK623.out⟩, ⟨uB⟩⟩
           case round =>
            as_aux_lemma =>
             clear H'
             try clear c1; try clear c2; try clear p2; try clear c3; try clear c4; try clear c7; try clear c9; try clear c13; try clear c14; try clear c15; try clear c16; try clear c23; try clear c33; try clear c33b0; try clear c33b1; try clear c34; try clear c34b0; try clear c34b1; try clear c34b2; try clear c39; try clear hcz11_0; try clear hcz11_1; try clear hcz11_2; try clear hcz11_3; try clear hcz13_0; try clear hcz13_1; try clear hcz13_2; try clear hcz13_3; try clear hcz15_0; try clear hcz15_1; try clear hcz15_2; try clear hcz15_3; try clear hcz17_0; try clear hcz17_1; try clear hcz17_2; try clear hcz17_3; try clear hcz19_0; try clear hcz19_1; try clear hcz19_2; try clear hcz19_3; try clear hcz21_0; try clear hcz21_1; try clear hcz21_2; try clear hcz21_3; try clear hcz29_0; try clear hcz29_1; try clear hcz29_2; try clear hcz29_3; try clear hcz31_0; try clear hcz31_1; try clear hcz31_2; try clear hcz31_3; try clear hcz36_0; try clear hcz36_1; try clear hcz36_2; try clear hcz36_3; try clear hcz38_0; try clear hcz38_1; try clear hcz38_2; try clear hcz38_3; try clear hfz11_0; try clear hfz11_1; try clear hfz11_2; try clear hfz11_3; try clear hfz13_0; try clear hfz13_1; try clear hfz13_2; try clear hfz13_3; try clear hfz15_0; try clear hfz15_1; try clear hfz15_2; try clear hfz15_3; try clear hfz17_0; try clear hfz17_1; try clear hfz17_2; try clear hfz17_3; try clear hfz19_0; try clear hfz19_1; try clear hfz19_2; try clear hfz19_3; try clear hfz21_0; try clear hfz21_1; try clear hfz21_2; try clear hfz21_3; try clear hfz29_0; try clear hfz29_1; try clear hfz29_2; try clear hfz29_3; try clear hfz31_0; try clear hfz31_1; try clear hfz31_2; try clear hfz31_3; try clear hfz36_0; try clear hfz36_1; try clear hfz36_2; try clear hfz36_3; try clear hfz38_0; try clear hfz38_1; try clear hfz38_2; try clear hfz38_3; try clear p2
             obtain ⟨x11_3, rfl, HA, HK3, HO_7, BK623, HB⟩ := hrel
             cases gk with
             | zero => exact absurd HA.out (by simp [quinarialaw02_ChannelHeights.l0])
             | succ k3 =>
              have H := HA.out
              clear HA
              simp only [quinarialaw02_ChannelHeights.l0] at H
              by_cases c40 : x11_3 < (t628.length : Int)
              ·as_aux_lemma =>
                rw [if_pos c40] at H
                replace c40 := decide_eq_true c40
                obtain ⟨c41, H⟩ := ifs H
                replace c41 := decide_eq_true c41
                obtain ⟨c42, H⟩ := ifs H
                replace c42 := decide_eq_true c42
                obtain ⟨ji43, hji43⟩ : ∃ j_ : Int, (wrap64 (x11_3 + 1)) = j_ := ⟨_, rfl⟩
                replace H : (if 0 ≤ (ji43) then (if (ji43) < (l0_2.length : Int) then (if x11_3 < (l2.length : Int) then (if (ji43) < (l2.length : Int) then ((quinariaref02_Pressure.f a1 (rd l2 x11_3) (rd l2 (ji43))).bind fun t640 => (if t640 < ((rd_T23 t628 x11_3).f0) then (some false) else (if t640 > ((rd_T23 t628 x11_3).f1) then (some false) else ((quinariaref02_Pressure.f a0_1 ((rd_T23 l0_2 x11_3).f0) ((rd_T23 l0_2 (ji43)).f0)).bind fun t644 => (if ((rd_T23 t628 x11_3).f1) = t644 then ((quinariaref02_Pressure.f a0_0 ((rd_T23 l0_2 x11_3).f1) ((rd_T23 l0_2 (ji43)).f1)).bind fun t646 => (if ((rd_T23 t628 x11_3).f0) = t646 then (quinarialaw02_ChannelHeights.l0 k3 a1 l2 t628 t632 ji43 a0_0 a0_1 l0_2 l0_3) else (some false))) else (some false)))))) else (none)) else (none)) else (none)) else (none)) = some r := by first | (rw [hji43] at H; exact H) | (simp only [hji43] at H ⊢; exact H)
                have hji43w : (IntKind.i64.wrap (x11_3 + 1)) = ji43 := (i64_w _).trans hji43
                obtain ⟨c44, H⟩ := ifs H
                replace c44 := decide_eq_true c44
                obtain ⟨c45, H⟩ := ifs H
                replace c45 := decide_eq_true c45
                obtain ⟨c46, H⟩ := ifs H
                replace c46 := decide_eq_true c46
                obtain ⟨c47, H⟩ := ifs H
                replace c47 := decide_eq_true c47
                replace H := Option.bind_eq_some_iff.mp H
                obtain ⟨t640, A480, H⟩ := H
                replace H : (if t640 < ((rd_T23 t628 x11_3).f0) then (some false) else (if t640 > ((rd_T23 t628 x11_3).f1) then (some false) else ((quinariaref02_Pressure.f a0_1 ((rd_T23 l0_2 x11_3).f0) ((rd_T23 l0_2 (ji43)).f0)).bind fun t644 => (if ((rd_T23 t628 x11_3).f1) = t644 then ((quinariaref02_Pressure.f a0_0 ((rd_T23 l0_2 x11_3).f1) ((rd_T23 l0_2 (ji43)).f1)).bind fun t646 => (if ((rd_T23 t628 x11_3).f0) = t646 then (quinarialaw02_ChannelHeights.l0 k3 a1 l2 t628 t632 ji43 a0_0 a0_1 l0_2 l0_3) else (some false))) else (some false))))) = some r := H
                have A48 := Aside0.mk A480
                clear A480
                by_cases c49 : t640 < ((rd_T23 t628 x11_3).f0)
                ·as_aux_lemma =>
                  rw [if_pos c49] at H
                  replace c49 := decide_eq_true c49
                  obtain rfl := Option.some.inj H
                  obtain ⟨Ao50, co50, eo50⟩ := Kd.R_slice HO_7.out
                  subst eo50
                  try go_wp2
                  replace HO_7 := Aside0.mk (Kd.R_drew HO_7.out)
                  replace BK623 := Aside0.mk (blk_drew BK623.out)
                  replace HB := Aside0.mk (below_drew1 HB.out)
                  have p634 : 0 ≤ (x11_3 : Int) := of_decide_eq_true (by first | (with_reducible assumption) | assumption)
                  have q634 : x11_3 < (l0_2.length : Int) := of_decide_eq_true (by first | (with_reducible assumption) | assumption)
                  obtain ⟨ad634, e634, hx634_0, hx634_1⟩ := at_T23 HR0_2.out x11_3 p634 q634
                  have hw634_1 := hx634_1
                  have hw634_0 := hx634_0
                  cases e634
                  replace hx634_0 := hcell HB.out hx634_0
                  replace hx634_1 := hcell HB.out hx634_1
                  replace p634 := eq_true p634
                  replace q634 := eq_true q634
                  have p635 : 0 ≤ ((ji43) : Int) := of_decide_eq_true (by first | (with_reducible assumption) | assumption)
                  have q635 : (ji43) < (l0_2.length : Int) := of_decide_eq_true (by first | (with_reducible assumption) | assumption)
                  obtain ⟨ad635, e635, hx635_0, hx635_1⟩ := at_T23 HR0_2.out (ji43) p635 q635
                  have hw635_1 := hx635_1
                  have hw635_0 := hx635_0
                  obtain rfl : ad634 = ad635 := (by injection e635)
                  replace hx635_0 := hcell HB.out hx635_0
                  replace hx635_1 := hcell HB.out hx635_1
                  replace p635 := eq_true p635
                  replace q635 := eq_true q635
                  refine start_ (n := 15) (S := fun w' => w'.cell? ⟨gb623, 0, none⟩ = some (.int .i64 a0_0) ∧ w'.cell? ⟨gb623, 1, none⟩ = some (.int .i64 a0_1) ∧ w'.cell? ⟨gb623, 2, none⟩ = some (.slice (some ad634) l0_2.length c0_2) ∧ w'.cell? ⟨gb623, 3, none⟩ = some (.slice A0_3 l0_3.length c0_3) ∧ w'.cell? (ad634.add ((x11_3).toNat * 2)) = some (.int .i64 ((rd_T23 l0_2 x11_3).f0)) ∧ w'.cell? ⟨(ad634.add ((x11_3).toNat * 2)).block, (ad634.add ((x11_3).toNat * 2)).off + 1, none⟩ = some (.int .i64 ((rd_T23 l0_2 x11_3).f1)) ∧ w'.cell? (ad634.add (((ji43)).toNat * 2)) = some (.int .i64 ((rd_T23 l0_2 (ji43)).f0)) ∧ w'.cell? ⟨(ad634.add (((ji43)).toNat * 2)).block, (ad634.add (((ji43)).toNat * 2)).off + 1, none⟩ = some (.int .i64 ((rd_T23 l0_2 (ji43)).f1))) (ds := []) (bl 15 0) (by kernel_rfl) rfl rfl ⟨(blk_cell BK623.out 0).trans rfl, (blk_cell BK623.out 1).trans rfl, (blk_cell BK623.out 2).trans rfl, (blk_cell BK623.out 3).trans rfl, (hcell HB.out hw634_0), (hcell HB.out hw634_1), (hcell HB.out hw635_0), (hcell HB.out hw635_1)⟩ (fun hHeld => ?_); refine with_tabW quinarialaw02_ChannelHeights.tab10 quinarialaw02_ChannelHeights.bits10 (fun HT_ HW_ => ?_)
                  generalize wr.drew = w51 at HO_7 BK623 HB hx634_0 hx634_1 hx635_0 hx635_1 hHeld ⊢
                  refine pu 0 65 15 1 ?_
                  refine pu 2 67 15 5 ?_
                  refine pu 5 70 15 37 ?_
                  refine pu 7 72 15 165 ?_
                  refine pu 8 73 15 421 ?_
                  refine tk8 1 66 15 423 hHeld ?_
                  refine pu 3 68 15 431 ?_
                  refine tk8 4 69 15 447 hHeld ?_
                  refine tk8 6 71 15 511 hHeld ?_
                  refine pu 9 74 15 1023 ?_
                  refine tk8 10 75 15 2047 hHeld ?_
                  refine join_ (σ := Nat × Nat) 2 (bl 15 8191) (fun s_ => [(12, .pointer (some ⟨s_.1, 0, none⟩)), (13, .pointer (some ⟨s_.2, 0, none⟩))]) (fun s_ w' => (w'.cell? ⟨gb623, 0, none⟩ = some (.int .i64 a0_0) ∧ w'.cell? ⟨gb623, 1, none⟩ = some (.int .i64 a0_1) ∧ w'.cell? ⟨gb623, 2, none⟩ = some (.slice (some ad634) l0_2.length c0_2) ∧ w'.cell? ⟨gb623, 3, none⟩ = some (.slice A0_3 l0_3.length c0_3) ∧ w'.cell? (ad634.add ((x11_3).toNat * 2)) = some (.int .i64 ((rd_T23 l0_2 x11_3).f0)) ∧ w'.cell? ⟨(ad634.add ((x11_3).toNat * 2)).block, (ad634.add ((x11_3).toNat * 2)).off + 1, none⟩ = some (.int .i64 ((rd_T23 l0_2 x11_3).f1)) ∧ w'.cell? (ad634.add (((ji43)).toNat * 2)) = some (.int .i64 ((rd_T23 l0_2 (ji43)).f0)) ∧ w'.cell? ⟨(ad634.add (((ji43)).toNat * 2)).block, (ad634.add (((ji43)).toNat * 2)).off + 1, none⟩ = some (.int .i64 ((rd_T23 l0_2 (ji43)).f1))) ∧ (Kd.R k23 23 w' w.heap.size (fun k_ => k_ ≠ s_.1 ∧ k_ ≠ s_.2) (.slice Ao50 t628.length co50) t628) ∧ (w'.heap[gb623]? = some (.cells #[.int .i64 a0_0, .int .i64 a0_1, .slice (some ad634) l0_2.length c0_2, .slice A0_3 l0_3.length c0_3] 27 (0, 0))) ∧ (w'.heap[s_.1]? = some (.cells #[.int .i64 0, .int .i64 0] 23 (0, 0))) ∧ (w'.heap[s_.2]? = some (.cells #[.int .i64 0, .int .i64 0] 23 (0, 0))) ∧ (w.heap.size ≤ s_.1) ∧ (w.heap.size ≤ s_.1) ∧ (gb623 ≠ s_.1) ∧ (s_.1 ≠ gb623) ∧ (s_.2 ≠ s_.1) ∧ (s_.1 ≠ s_.2) ∧ (w.heap.size ≤ s_.2) ∧ (w.heap.size ≤ s_.2) ∧ (gb623 ≠ s_.2) ∧ (s_.2 ≠ gb623) ∧ (Below w.heap.size w w')) ?_ ?_
                  rotate_left
                  ·intro hCont
                   refine two_ (i := 11) (j := 12) (Ni := some 12) (Nj := some 13) (bl 15 4095) (bl 15 6143) rfl rfl rfl rfl (two_of HT_.out (by kernel_rfl)) (by decide) (by decide) (fun K hK => ?_) (fun K hK => ?_)
                   ·skip
                    refine bxs 12 #[.int .i64 0, .int .i64 0] 23 ?_
                    intro gb636 hg w52 hbox hb
                    have n0_ := rE HO_7 hg hb
                    have n1_ := Aside0.mk (blk_below (uK BK623.out) hb)
                    have n2_ := Aside0.mk (below_step uB hb)
                    have n3_ := Aside0.mk (hbox)
                    have n4_ := gw hg
                    have n5_ := gw hg
                    have n6_ := nb BK623 hg
                    have n7_ := nc BK623 hg
                    clear HO_7 BK623 HB
                    have HO_7 := n0_
                    have BK623 := n1_
                    have HB := n2_
                    have BK636 := n3_
                    have GW636 := n4_
                    have GE636 := n5_
                    have NB623_636 := n6_
                    have NB636_623 := n7_
                    clear n0_ n1_ n2_ n3_ n4_ n5_ n6_ n7_
                    clear hb hbox hg
                    refine hK.out _ _ ⟨(blk_cell BK623.out 0).trans rfl, (blk_cell BK623.out 1).trans rfl, (blk_cell BK623.out 2).trans rfl, (blk_cell BK623.out 3).trans rfl, (hcell HB.out hw634_0), (hcell HB.out hw634_1), (hcell HB.out hw635_0), (hcell HB.out hw635_1)⟩ (fun hHeld => ?_)
                    clear hK K
                    refine nm ?_
                    refine one_ (i := 12) (N := some 13) (bl 15 8191) rfl rfl (one_of HT_.out (by kernel_rfl)) (by decide) (fun K hK => ?_)
                    refine bxs 13 #[.int .i64 0, .int .i64 0] 23 ?_
                    intro gb637 hg w53 hbox hb
                    have n0_ := rE HO_7 hg hb
                    have n1_ := Aside0.mk (blk_below (uK BK623.out) hb)
                    have n2_ := Aside0.mk (blk_below (uK BK636.out) hb)
                    have n3_ := Aside0.mk (below_step uB hb)
                    have n4_ := Aside0.mk (hbox)
                    have n5_ := gw hg
                    have n6_ := gw hg
                    have n7_ := nb BK623 hg
                    have n8_ := nc BK623 hg
                    have n9_ := nb BK636 hg
                    have n10_ := nc BK636 hg
                    clear HO_7 BK623 BK636 HB
                    have HO_7 := n0_
                    have BK623 := n1_
                    have BK636 := n2_
                    have HB := n3_
                    have BK637 := n4_
                    have GW637 := n5_
                    have GE637 := n6_
                    have NB623_637 := n7_
                    have NB637_623 := n8_
                    have NB636_637 := n9_
                    have NB637_636 := n10_
                    clear n0_ n1_ n2_ n3_ n4_ n5_ n6_ n7_ n8_ n9_ n10_
                    clear hb hbox hg
                    refine hK.out _ _ ⟨(blk_cell BK623.out 0).trans rfl, (blk_cell BK623.out 1).trans rfl, (blk_cell BK623.out 2).trans rfl, (blk_cell BK623.out 3).trans rfl, (hcell HB.out hw634_0), (hcell HB.out hw634_1), (hcell HB.out hw635_0), (hcell HB.out hw635_1)⟩ (fun hHeld => ?_)
                    clear hK K
                    refine nm ?_
                    exact norm_ (by simp only [putAll, Act.put, List.setIfInBounds_toArray, List.set_cons_zero, List.set_cons_succ]) (hCont (gb636, gb637) _ ⟨hHeld, (by refine uR ?_; exact Kd.R_mono HO_7.out (fun _ hk => ⟨hk.1.2, hk.2⟩)), (uK BK623.out), (uK BK636.out), (uK BK637.out), GW636.out, GE636.out, NB623_636.out, NB636_623.out, NB637_636.out, NB636_637.out, GW637.out, GE637.out, NB623_637.out, NB637_623.out, uB⟩)
                   ·skip
                    refine bxs 13 #[.int .i64 0, .int .i64 0] 23 ?_
                    intro gb637 hg w52 hbox hb
                    have n0_ := rE HO_7 hg hb
                    have n1_ := Aside0.mk (blk_below (uK BK623.out) hb)
                    have n2_ := Aside0.mk (below_step uB hb)
                    have n3_ := Aside0.mk (hbox)
                    have n4_ := gw hg
                    have n5_ := gw hg
                    have n6_ := nb BK623 hg
                    have n7_ := nc BK623 hg
                    clear HO_7 BK623 HB
                    have HO_7 := n0_
                    have BK623 := n1_
                    have HB := n2_
                    have BK637 := n3_
                    have GW637 := n4_
                    have GE637 := n5_
                    have NB623_637 := n6_
                    have NB637_623 := n7_
                    clear n0_ n1_ n2_ n3_ n4_ n5_ n6_ n7_
                    clear hb hbox hg
                    refine hK.out _ _ ⟨(blk_cell BK623.out 0).trans rfl, (blk_cell BK623.out 1).trans rfl, (blk_cell BK623.out 2).trans rfl, (blk_cell BK623.out 3).trans rfl, (hcell HB.out hw634_0), (hcell HB.out hw634_1), (hcell HB.out hw635_0), (hcell HB.out hw635_1)⟩ (fun hHeld => ?_)
                    clear hK K
                    refine nm ?_
                    refine one_ (i := 11) (N := some 12) (bl 15 8191) rfl rfl (one_of HT_.out (by kernel_rfl)) (by decide) (fun K hK => ?_)
                    refine bxs 12 #[.int .i64 0, .int .i64 0] 23 ?_
                    intro gb636 hg w53 hbox hb
                    have n0_ := rE HO_7 hg hb
                    have n1_ := Aside0.mk (blk_below (uK BK623.out) hb)
                    have n2_ := Aside0.mk (blk_below (uK BK637.out) hb)
                    have n3_ := Aside0.mk (below_step uB hb)
                    have n4_ := Aside0.mk (hbox)
                    have n5_ := gw hg
                    have n6_ := gw hg
                    have n7_ := nb BK623 hg
                    have n8_ := nc BK623 hg
                    have n9_ := nb BK637 hg
                    have n10_ := nc BK637 hg
                    clear HO_7 BK623 BK637 HB
                    have HO_7 := n0_
                    have BK623 := n1_
                    have BK637 := n2_
                    have HB := n3_
                    have BK636 := n4_
                    have GW636 := n5_
                    have GE636 := n6_
                    have NB623_636 := n7_
                    have NB636_623 := n8_
                    have NB637_636 := n9_
                    have NB636_637 := n10_
                    clear n0_ n1_ n2_ n3_ n4_ n5_ n6_ n7_ n8_ n9_ n10_
                    clear hb hbox hg
                    refine hK.out _ _ ⟨(blk_cell BK623.out 0).trans rfl, (blk_cell BK623.out 1).trans rfl, (blk_cell BK623.out 2).trans rfl, (blk_cell BK623.out 3).trans rfl, (hcell HB.out hw634_0), (hcell HB.out hw634_1), (hcell HB.out hw635_0), (hcell HB.out hw635_1)⟩ (fun hHeld => ?_)
                    clear hK K
                    refine nm ?_
                    exact norm_ (by simp only [putAll, Act.put, List.setIfInBounds_toArray, List.set_cons_zero, List.set_cons_succ]) (hCont (gb636, gb637) _ ⟨hHeld, (by refine uR ?_; exact Kd.R_mono HO_7.out (fun _ hk => ⟨hk.2, hk.1.2⟩)), (uK BK623.out), (uK BK636.out), (uK BK637.out), GW636.out, GE636.out, NB623_636.out, NB636_623.out, NB637_636.out, NB636_637.out, GW637.out, GE637.out, NB623_637.out, NB637_623.out, uB⟩)
                  rintro ⟨gb636, gb637⟩ w54 ⟨hS_, h0_, h1_, h2_, h3_, h4_, h5_, h6_, h7_, h8_, h9_, h10_, h11_, h12_, h13_, h14_⟩
                  try dsimp only at h0_ h1_ h2_ h3_ h4_ h5_ h6_ h7_ h8_ h9_ h10_ h11_ h12_ h13_ h14_
                  have n0_ := Aside0.mk h0_
                  have n1_ := Aside0.mk h1_
                  have n2_ := Aside0.mk h2_
                  have n3_ := Aside0.mk h3_
                  have n4_ := Aside0.mk h4_
                  have n5_ := Aside0.mk h5_
                  have n6_ := Aside0.mk h6_
                  have n7_ := Aside0.mk h7_
                  have n8_ := Aside0.mk h8_
                  have n9_ := Aside0.mk h9_
                  have n10_ := Aside0.mk h10_
                  have n11_ := Aside0.mk h11_
                  have n12_ := Aside0.mk h12_
                  have n13_ := Aside0.mk h13_
                  have n14_ := Aside0.mk h14_
                  clear HO_7 BK623 HB
                  clear h0_ h1_ h2_ h3_ h4_ h5_ h6_ h7_ h8_ h9_ h10_ h11_ h12_ h13_ h14_
                  have HO_7 := n0_
                  have BK623 := n1_
                  have BK636 := n2_
                  have BK637 := n3_
                  have GW636 := n4_
                  have GE636 := n5_
                  have NB623_636 := n6_
                  have NB636_623 := n7_
                  have NB637_636 := n8_
                  have NB636_637 := n9_
                  have GW637 := n10_
                  have GE637 := n11_
                  have NB623_637 := n12_
                  have NB637_623 := n13_
                  have HB := n14_
                  clear n0_ n1_ n2_ n3_ n4_ n5_ n6_ n7_ n8_ n9_ n10_ n11_ n12_ n13_ n14_
                  have hHeld : w54.cell? ⟨gb623, 0, none⟩ = some (.int .i64 a0_0) ∧ w54.cell? ⟨gb623, 1, none⟩ = some (.int .i64 a0_1) ∧ w54.cell? ⟨gb623, 2, none⟩ = some (.slice (some ad634) l0_2.length c0_2) ∧ w54.cell? ⟨gb623, 3, none⟩ = some (.slice A0_3 l0_3.length c0_3) ∧ w54.cell? (ad634.add ((x11_3).toNat * 2)) = some (.int .i64 ((rd_T23 l0_2 x11_3).f0)) ∧ w54.cell? ⟨(ad634.add ((x11_3).toNat * 2)).block, (ad634.add ((x11_3).toNat * 2)).off + 1, none⟩ = some (.int .i64 ((rd_T23 l0_2 x11_3).f1)) ∧ w54.cell? (ad634.add (((ji43)).toNat * 2)) = some (.int .i64 ((rd_T23 l0_2 (ji43)).f0)) ∧ w54.cell? ⟨(ad634.add (((ji43)).toNat * 2)).block, (ad634.add (((ji43)).toNat * 2)).off + 1, none⟩ = some (.int .i64 ((rd_T23 l0_2 (ji43)).f1)) := hS_
                  refine nm ?_
                  refine one_ (i := 13) (N := none) (bl 15 16383) rfl rfl (one_of HT_.out (by kernel_rfl)) (by decide) (fun K hK => ?_)
                  have hs55 := (blk_cell BK636.out 0).trans rfl
                  have hfs55 := blk_frozen BK636.out 0
                  have hns55_0 := NB623_636.out
                  have hns55_2 := NB637_636.out
                  have hms55_0 := NB636_623.out
                  have hms55_2 := NB636_637.out
                  have hs56 := (blk_cell BK636.out 1).trans rfl
                  have hfs56 := blk_frozen BK636.out 1
                  have hns56_0 := NB623_636.out
                  have hns56_2 := NB637_636.out
                  have hms56_0 := NB636_623.out
                  have hms56_2 := NB636_637.out
                  refine skip_ (w1 := ?_) (by rfl) rfl ?_ ?_
                  rotate_left
                  ·go_simp
                   rfl
                  refine hK.out _ _ ⟨((cf gb636 NB623_636.out).trans (((cf gb636 NB623_636.out).trans (hHeld.1)))), ((cf gb636 NB623_636.out).trans (((cf gb636 NB623_636.out).trans (hHeld.2.1)))), ((cf gb636 NB623_636.out).trans (((cf gb636 NB623_636.out).trans (hHeld.2.2.1)))), ((cf gb636 NB623_636.out).trans (((cf gb636 NB623_636.out).trans (hHeld.2.2.2.1)))), ((cf gb636 (fl hw634_0 GW636)).trans (((cf gb636 (fl hw634_0 GW636)).trans (hHeld.2.2.2.2.1)))), ((cf gb636 (fl hw634_1 GW636)).trans (((cf gb636 (fl hw634_1 GW636)).trans (hHeld.2.2.2.2.2.1)))), ((cf gb636 (fl hw635_0 GW636)).trans (((cf gb636 (fl hw635_0 GW636)).trans (hHeld.2.2.2.2.2.2.1)))), ((cf gb636 (fl hw635_1 GW636)).trans (((cf gb636 (fl hw635_1 GW636)).trans (hHeld.2.2.2.2.2.2.2))))⟩ (fun hHeld => ?_)
                  clear hK K
                  refine one_ (i := 14) (N := none) (bl 15 32767) rfl rfl (one_of HT_.out (by kernel_rfl)) (by decide) (fun K hK => ?_)
                  have hs57 := (blk_cell BK637.out 0).trans rfl
                  have hfs57 := blk_frozen BK637.out 0
                  have hns57_0 := NB623_637.out
                  have hns57_1 := NB636_637.out
                  have hms57_0 := NB637_623.out
                  have hms57_1 := NB637_636.out
                  have hs58 := (blk_cell BK637.out 1).trans rfl
                  have hfs58 := blk_frozen BK637.out 1
                  have hns58_0 := NB623_637.out
                  have hns58_1 := NB636_637.out
                  have hms58_0 := NB637_623.out
                  have hms58_1 := NB637_636.out
                  refine skip_ (w1 := ?_) (by rfl) rfl ?_ ?_
                  rotate_left
                  ·go_simp
                   rfl
                  refine hK.out _ _ ⟨((cf gb637 NB623_637.out).trans (((cf gb637 NB623_637.out).trans (hHeld.1)))), ((cf gb637 NB623_637.out).trans (((cf gb637 NB623_637.out).trans (hHeld.2.1)))), ((cf gb637 NB623_637.out).trans (((cf gb637 NB623_637.out).trans (hHeld.2.2.1)))), ((cf gb637 NB623_637.out).trans (((cf gb637 NB623_637.out).trans (hHeld.2.2.2.1)))), ((cf gb637 (fl hw634_0 GW637)).trans (((cf gb637 (fl hw634_0 GW637)).trans (hHeld.2.2.2.2.1)))), ((cf gb637 (fl hw634_1 GW637)).trans (((cf gb637 (fl hw634_1 GW637)).trans (hHeld.2.2.2.2.2.1)))), ((cf gb637 (fl hw635_0 GW637)).trans (((cf gb637 (fl hw635_0 GW637)).trans (hHeld.2.2.2.2.2.2.1)))), ((cf gb637 (fl hw635_1 GW637)).trans (((cf gb637 (fl hw635_1 GW637)).trans (hHeld.2.2.2.2.2.2.2))))⟩ (fun hHeld => ?_)
                  clear hK K
                  refine done_ (done_of HT_.out (by kernel_rfl)) ?_
                  try go_wp2
                  have n0_ : Aside0 (Kd.R k23 23 ((((w54.setCell ⟨gb636, 0, none⟩ (.int .i64 ((rd_T23 l0_2 x11_3).f0))).setCell ⟨gb636, 1, none⟩ (.int .i64 ((rd_T23 l0_2 x11_3).f1))).setCell ⟨gb637, 0, none⟩ (.int .i64 ((rd_T23 l0_2 (ji43)).f0))).setCell ⟨gb637, 1, none⟩ (.int .i64 ((rd_T23 l0_2 (ji43)).f1))) w.heap.size (fun k_ => k_ ≠ gb636 ∧ k_ ≠ gb637) (.slice Ao50 t628.length co50) t628) := ⟨by refine uR ?_; exact Kd.R_mono (Kd.R_far (p := ⟨gb637, 1, none⟩) (Kd.R_far (p := ⟨gb637, 0, none⟩) (Kd.R_far (p := ⟨gb636, 1, none⟩) (Kd.R_far (p := ⟨gb636, 0, none⟩) (Kd.R_mono (Kd.R_mono HO_7.out (fun k_ hk => (⟨hk, hk.1⟩ : _ ∧ k_ ≠ gb636))) (fun k_ hk => (⟨hk, hk.1.2⟩ : _ ∧ k_ ≠ gb637))) (fun _ hk => hk.1.2) (.int .i64 ((rd_T23 l0_2 x11_3).f0))) (fun _ hk => hk.1.2) (.int .i64 ((rd_T23 l0_2 x11_3).f1))) (fun _ hk => hk.2) (.int .i64 ((rd_T23 l0_2 (ji43)).f0))) (fun _ hk => hk.2) (.int .i64 ((rd_T23 l0_2 (ji43)).f1))) (fun _ hk => ⟨hk.1.1.1, hk.1.1.2⟩)⟩
                  have n1_ : Aside0 (((((w54.setCell ⟨gb636, 0, none⟩ (.int .i64 ((rd_T23 l0_2 x11_3).f0))).setCell ⟨gb636, 1, none⟩ (.int .i64 ((rd_T23 l0_2 x11_3).f1))).setCell ⟨gb637, 0, none⟩ (.int .i64 ((rd_T23 l0_2 (ji43)).f0))).setCell ⟨gb637, 1, none⟩ (.int .i64 ((rd_T23 l0_2 (ji43)).f1))).heap[gb623]? = some (.cells #[.int .i64 a0_0, .int .i64 a0_1, .slice (some ad634) l0_2.length c0_2, .slice A0_3 l0_3.length c0_3] 27 (0, 0))) := ⟨by refine uK ?_; refine blk_far ?_ NB623_637.out _; refine uK ?_; refine blk_far ?_ NB623_637.out _; refine uK ?_; refine blk_far ?_ NB623_636.out _; refine uK ?_; refine blk_far ?_ NB623_636.out _; refine uK ?_; exact BK623.out⟩
                  have n2_ : Aside0 (((((w54.setCell ⟨gb636, 0, none⟩ (.int .i64 ((rd_T23 l0_2 x11_3).f0))).setCell ⟨gb636, 1, none⟩ (.int .i64 ((rd_T23 l0_2 x11_3).f1))).setCell ⟨gb637, 0, none⟩ (.int .i64 ((rd_T23 l0_2 (ji43)).f0))).setCell ⟨gb637, 1, none⟩ (.int .i64 ((rd_T23 l0_2 (ji43)).f1))).heap[gb636]? = some (.cells #[.int .i64 ((rd_T23 l0_2 x11_3).f0), .int .i64 ((rd_T23 l0_2 x11_3).f1)] 23 (0, 0))) := ⟨by refine uK ?_; refine blk_far ?_ NB636_637.out _; refine uK ?_; refine blk_far ?_ NB636_637.out _; refine uK ?_; refine blk_put (cs := #[.int .i64 ((rd_T23 l0_2 x11_3).f0), .int .i64 0]) ?_ 1 _ rfl; refine uK ?_; refine blk_put (cs := #[.int .i64 0, .int .i64 0]) ?_ 0 _ rfl; refine uK ?_; exact BK636.out⟩
                  have n3_ : Aside0 (((((w54.setCell ⟨gb636, 0, none⟩ (.int .i64 ((rd_T23 l0_2 x11_3).f0))).setCell ⟨gb636, 1, none⟩ (.int .i64 ((rd_T23 l0_2 x11_3).f1))).setCell ⟨gb637, 0, none⟩ (.int .i64 ((rd_T23 l0_2 (ji43)).f0))).setCell ⟨gb637, 1, none⟩ (.int .i64 ((rd_T23 l0_2 (ji43)).f1))).heap[gb637]? = some (.cells #[.int .i64 ((rd_T23 l0_2 (ji43)).f0), .int .i64 ((rd_T23 l0_2 (ji43)).f1)] 23 (0, 0))) := ⟨by refine uK ?_; refine blk_put (cs := #[.int .i64 ((rd_T23 l0_2 (ji43)).f0), .int .i64 0]) ?_ 1 _ rfl; refine uK ?_; refine blk_put (cs := #[.int .i64 0, .int .i64 0]) ?_ 0 _ rfl; refine uK ?_; refine blk_far ?_ NB637_636.out _; refine uK ?_; refine blk_far ?_ NB637_636.out _; refine uK ?_; exact BK637.out⟩
                  have n4_ : Aside0 (Below w.heap.size w ((((w54.setCell ⟨gb636, 0, none⟩ (.int .i64 ((rd_T23 l0_2 x11_3).f0))).setCell ⟨gb636, 1, none⟩ (.int .i64 ((rd_T23 l0_2 x11_3).f1))).setCell ⟨gb637, 0, none⟩ (.int .i64 ((rd_T23 l0_2 (ji43)).f0))).setCell ⟨gb637, 1, none⟩ (.int .i64 ((rd_T23 l0_2 (ji43)).f1)))) := ⟨uB⟩
                  (try clear HO_7)
                  (try clear BK623)
                  (try clear BK636)
                  (try clear BK637)
                  (try clear HB)
                  generalize ((((w54.setCell ⟨gb636, 0, none⟩ (.int .i64 ((rd_T23 l0_2 x11_3).f0))).setCell ⟨gb636, 1, none⟩ (.int .i64 ((rd_T23 l0_2 x11_3).f1))).setCell ⟨gb637, 0, none⟩ (.int .i64 ((rd_T23 l0_2 (ji43)).f0))).setCell ⟨gb637, 1, none⟩ (.int .i64 ((rd_T23 l0_2 (ji43)).f1))) = w59 at n0_ n1_ n2_ n3_ n4_ ⊢
                  have HO_7 := n0_
                  have BK623 := n1_
                  have BK636 := n2_
                  have BK637 := n3_
                  have HB := n4_
                  clear n0_ n1_ n2_ n3_ n4_
                  replace HO_7 := Aside0.mk (Kd.R_drew HO_7.out)
                  replace BK623 := Aside0.mk (blk_drew BK623.out)
                  replace BK636 := Aside0.mk (blk_drew BK636.out)
                  replace BK637 := Aside0.mk (blk_drew BK637.out)
                  replace HB := Aside0.mk (below_drew1 HB.out)
                  have p638 : 0 ≤ (x11_3 : Int) := of_decide_eq_true (by first | (with_reducible assumption) | assumption)
                  have q638 : x11_3 < (l2.length : Int) := of_decide_eq_true (by first | (with_reducible assumption) | assumption)
                  obtain ⟨ad638, e638, hx638_0⟩ := Kd.at_int HR2.out x11_3 p638 q638
                  have hw638_0 := hx638_0
                  cases e638
                  replace hx638_0 := hcell HB.out hx638_0
                  replace p638 := eq_true p638
                  replace q638 := eq_true q638
                  have p639 : 0 ≤ ((ji43) : Int) := of_decide_eq_true (by first | (with_reducible assumption) | assumption)
                  have q639 : (ji43) < (l2.length : Int) := of_decide_eq_true (by first | (with_reducible assumption) | assumption)
                  obtain ⟨ad639, e639, hx639_0⟩ := Kd.at_int HR2.out (ji43) p639 q639
                  have hw639_0 := hx639_0
                  obtain rfl : ad638 = ad639 := (by injection e639)
                  replace hx639_0 := hcell HB.out hx639_0
                  replace p639 := eq_true p639
                  replace q639 := eq_true q639
                  refine start_ (n := 12) (S := fun w' => w'.cell? (ad638.add (x11_3).toNat) = some (.int .i64 (rd l2 x11_3)) ∧ w'.cell? (ad638.add ((ji43)).toNat) = some (.int .i64 (rd l2 (ji43)))) (ds := []) (bl 12 0) (by kernel_rfl) rfl rfl ⟨(hcell HB.out hw638_0), (hcell HB.out hw639_0)⟩ (fun hHeld => ?_); refine with_tabW quinarialaw02_ChannelHeights.tab11 quinarialaw02_ChannelHeights.bits11 (fun HT_ HW_ => ?_)
                  generalize w59.drew = w60 at HO_7 BK623 BK636 BK637 HB hx638_0 hx639_0 hHeld ⊢
                  refine pu 0 76 12 1 ?_
                  refine pu 1 77 12 3 ?_
                  refine pu 2 78 12 7 ?_
                  refine pu 3 79 12 15 ?_
                  refine pu 5 81 12 47 ?_
                  refine pu 6 82 12 111 ?_
                  refine pu 7 83 12 239 ?_
                  refine pu 8 84 12 495 ?_
                  refine tk2 4 80 12 511 hHeld ?_
                  refine tk2 9 85 12 1023 hHeld ?_
                  refine one_ (i := 10) (N := some 86) (bl 12 2047) rfl rfl (one_of HT_.out (by kernel_rfl)) (by decide) (fun K hK => ?_)
                  refine goes_ Tryz.func22 (by kernel_rfl) rfl #[.int .i64 a1, .int .i64 (rd l2 x11_3), .int .i64 (rd l2 (ji43))] (by rfl) rfl rfl (by (try simp only [List.map_toArray, List.map_cons, List.map_nil]); first | done | (simp only [hji43]; rfl) | rfl | (simp only [List.length_drop, List.length_take]; rfl)) ?_
                  with_reducible refine (quinariaref02_Pressure.calls a1 (rd l2 x11_3) (rd l2 (ji43)) t640 _ A48.out).mono ?_
                  rintro e w61 ⟨rfl, hb⟩
                  refine ⟨_, rfl, ?_⟩
                  replace HO_7 := Aside0.mk (Kd.R_below (uR HO_7.out) hb)
                  replace BK623 := Aside0.mk (blk_below (uK BK623.out) hb)
                  replace BK636 := Aside0.mk (blk_below (uK BK636.out) hb)
                  replace BK637 := Aside0.mk (blk_below (uK BK637.out) hb)
                  replace HB := Aside0.mk (below_step uB hb)
                  (try clear hb)
                  (try clear hb2)
                  (try clear hk)
                  (try clear hi)
                  refine hK.out _ _ ⟨(hcell HB.out hw638_0), (hcell HB.out hw639_0)⟩ (fun hHeld => ?_)
                  clear hK K
                  refine nm ?_
                  refine pu 11 14 12 4095 ?_
                  refine done_ (done_of HT_.out (by kernel_rfl)) ?_
                  try go_wp2
                  replace HO_7 := Aside0.mk (Kd.R_drew HO_7.out)
                  replace BK623 := Aside0.mk (blk_drew BK623.out)
                  replace BK636 := Aside0.mk (blk_drew BK636.out)
                  replace BK637 := Aside0.mk (blk_drew BK637.out)
                  replace HB := Aside0.mk (below_drew1 HB.out)
                  have p641 : 0 ≤ (x11_3 : Int) := of_decide_eq_true (by first | (with_reducible assumption) | assumption)
                  have q641 : x11_3 < (t628.length : Int) := of_decide_eq_true (by first | (with_reducible assumption) | assumption)
                  obtain ⟨ad641, e641, hx641_0, hx641_1⟩ := at_T23 (Kd.R_reads' HO_7.out).2.2 x11_3 p641 q641
                  cases e641
                  replace p641 := eq_true p641
                  replace q641 := eq_true q641
                  refine start_ (n := 48) (S := fun w' => w'.cell? (ad641.add ((x11_3).toNat * 2)) = some (.int .i64 ((rd_T23 t628 x11_3).f0)) ∧ w'.cell? ⟨(ad641.add ((x11_3).toNat * 2)).block, (ad641.add ((x11_3).toNat * 2)).off + 1, none⟩ = some (.int .i64 ((rd_T23 t628 x11_3).f1))) (ds := []) (bl 48 0) (by kernel_rfl) rfl rfl ⟨hx641_0, hx641_1⟩ (fun hHeld => ?_); refine with_tabW quinarialaw02_ChannelHeights.tab12 quinarialaw02_ChannelHeights.bits12 (fun HT_ HW_ => ?_)
                  generalize w61.drew = w62 at HO_7 BK623 BK636 BK637 HB hx641_0 hx641_1 hHeld ⊢
                  refine pu 0 87 48 1 ?_
                  refine pu 1 88 48 3 ?_
                  refine pu 2 89 48 7 ?_
                  refine pu 3 90 48 15 ?_
                  refine pu 4 91 48 31 ?_
                  refine tk2 5 92 48 63 hHeld ?_
                  refine pu 6 93 48 127 ?_
                  refine pu 7 94 48 255 ?_
                  refine pd 8 95 48 511 ?_
                  refine pd 9 96 48 1023 ?_
                  refine pd 10 97 48 2047 ?_
                  refine pd 11 98 48 4095 ?_
                  refine pd 12 99 48 8191 ?_
                  refine pd 13 100 48 16383 ?_
                  refine pd 14 101 48 32767 ?_
                  refine pu 15 102 48 65535 ?_
                  refine pu 16 103 48 131071 ?_
                  refine pd 17 104 48 262143 ?_
                  refine pd 18 105 48 524287 ?_
                  refine pd 19 106 48 1048575 ?_
                  refine pd 20 107 48 2097151 ?_
                  refine pd 21 108 48 4194303 ?_
                  refine pd 22 109 48 8388607 ?_
                  refine pd 23 110 48 16777215 ?_
                  refine pd 24 111 48 33554431 ?_
                  refine pd 25 112 48 67108863 ?_
                  refine pd 26 113 48 134217727 ?_
                  refine pd 27 114 48 268435455 ?_
                  refine pd 28 115 48 536870911 ?_
                  refine pd 29 116 48 1073741823 ?_
                  refine pd 30 117 48 2147483647 ?_
                  refine pu 31 118 48 4294967295 ?_
                  refine pu 32 119 48 8589934591 ?_
                  refine pd 33 120 48 17179869183 ?_
                  refine pd 34 121 48 34359738367 ?_
                  refine pd 35 122 48 68719476735 ?_
                  refine pd 36 123 48 137438953471 ?_
                  refine pd 37 124 48 274877906943 ?_
                  refine pd 38 125 48 549755813887 ?_
                  refine pd 39 126 48 1099511627775 ?_
                  refine pd 40 127 48 2199023255551 ?_
                  refine pd 41 128 48 4398046511103 ?_
                  refine pd 42 129 48 8796093022207 ?_
                  refine pd 43 130 48 17592186044415 ?_
                  refine pd 44 131 48 35184372088831 ?_
                  refine pd 45 132 48 70368744177663 ?_
                  refine pd 46 133 48 140737488355327 ?_
                  refine pu 47 134 48 281474976710655 ?_
                  refine done_ (done_of HT_.out (by kernel_rfl)) ?_
                  try go_wp2
                  go_ret
                  exact ⟨by first | rfl | (simp [errW_none, errW_some] <;> rfl) | (simp only [← hji43]; first | rfl | (simp [errW_none, errW_some] <;> rfl)) | (simp [*, errW_none, errW_some] <;> rfl), uB⟩
                ·as_aux_lemma =>
                  rw [if_neg c49] at H
                  replace c49 := decide_eq_false c49
                  by_cases c63 : t640 > ((rd_T23 t628 x11_3).f1)
                  ·as_aux_lemma =>
                    rw [if_pos c63] at H
                    replace c63 := decide_eq_true c63
                    obtain rfl := Option.some.inj H
                    obtain ⟨Ao64, co64, eo64⟩ := Kd.R_slice HO_7.out
                    subst eo64
                    try go_wp2
                    replace HO_7 := Aside0.mk (Kd.R_drew HO_7.out)
                    replace BK623 := Aside0.mk (blk_drew BK623.out)
                    replace HB := Aside0.mk (below_drew1 HB.out)
                    have p634 : 0 ≤ (x11_3 : Int) := of_decide_eq_true (by first | (with_reducible assumption) | assumption)
                    have q634 : x11_3 < (l0_2.length : Int) := of_decide_eq_true (by first | (with_reducible assumption) | assumption)
                    obtain ⟨ad634, e634, hx634_0, hx634_1⟩ := at_T23 HR0_2.out x11_3 p634 q634
                    have hw634_1 := hx634_1
                    have hw634_0 := hx634_0
                    cases e634
                    replace hx634_0 := hcell HB.out hx634_0
                    replace hx634_1 := hcell HB.out hx634_1
                    replace p634 := eq_true p634
                    replace q634 := eq_true q634
                    have p635 : 0 ≤ ((ji43) : Int) := of_decide_eq_true (by first | (with_reducible assumption) | assumption)
                    have q635 : (ji43) < (l0_2.length : Int) := of_decide_eq_true (by first | (with_reducible assumption) | assumption)
                    obtain ⟨ad635, e635, hx635_0, hx635_1⟩ := at_T23 HR0_2.out (ji43) p635 q635
                    have hw635_1 := hx635_1
                    have hw635_0 := hx635_0
                    obtain rfl : ad634 = ad635 := (by injection e635)
                    replace hx635_0 := hcell HB.out hx635_0
                    replace hx635_1 := hcell HB.out hx635_1
                    replace p635 := eq_true p635
                    replace q635 := eq_true q635
                    refine start_ (n := 15) (S := fun w' => w'.cell? ⟨gb623, 0, none⟩ = some (.int .i64 a0_0) ∧ w'.cell? ⟨gb623, 1, none⟩ = some (.int .i64 a0_1) ∧ w'.cell? ⟨gb623, 2, none⟩ = some (.slice (some ad634) l0_2.length c0_2) ∧ w'.cell? ⟨gb623, 3, none⟩ = some (.slice A0_3 l0_3.length c0_3) ∧ w'.cell? (ad634.add ((x11_3).toNat * 2)) = some (.int .i64 ((rd_T23 l0_2 x11_3).f0)) ∧ w'.cell? ⟨(ad634.add ((x11_3).toNat * 2)).block, (ad634.add ((x11_3).toNat * 2)).off + 1, none⟩ = some (.int .i64 ((rd_T23 l0_2 x11_3).f1)) ∧ w'.cell? (ad634.add (((ji43)).toNat * 2)) = some (.int .i64 ((rd_T23 l0_2 (ji43)).f0)) ∧ w'.cell? ⟨(ad634.add (((ji43)).toNat * 2)).block, (ad634.add (((ji43)).toNat * 2)).off + 1, none⟩ = some (.int .i64 ((rd_T23 l0_2 (ji43)).f1))) (ds := []) (bl 15 0) (by kernel_rfl) rfl rfl ⟨(blk_cell BK623.out 0).trans rfl, (blk_cell BK623.out 1).trans rfl, (blk_cell BK623.out 2).trans rfl, (blk_cell BK623.out 3).trans rfl, (hcell HB.out hw634_0), (hcell HB.out hw634_1), (hcell HB.out hw635_0), (hcell HB.out hw635_1)⟩ (fun hHeld => ?_); refine with_tabW quinarialaw02_ChannelHeights.tab10 quinarialaw02_ChannelHeights.bits10 (fun HT_ HW_ => ?_)
                    generalize wr.drew = w65 at HO_7 BK623 HB hx634_0 hx634_1 hx635_0 hx635_1 hHeld ⊢
                    refine pu 0 65 15 1 ?_
                    refine pu 2 67 15 5 ?_
                    refine pu 5 70 15 37 ?_
                    refine pu 7 72 15 165 ?_
                    refine pu 8 73 15 421 ?_
                    refine tk8 1 66 15 423 hHeld ?_
                    refine pu 3 68 15 431 ?_
                    refine tk8 4 69 15 447 hHeld ?_
                    refine tk8 6 71 15 511 hHeld ?_
                    refine pu 9 74 15 1023 ?_
                    refine tk8 10 75 15 2047 hHeld ?_
                    refine join_ (σ := Nat × Nat) 2 (bl 15 8191) (fun s_ => [(12, .pointer (some ⟨s_.1, 0, none⟩)), (13, .pointer (some ⟨s_.2, 0, none⟩))]) (fun s_ w' => (w'.cell? ⟨gb623, 0, none⟩ = some (.int .i64 a0_0) ∧ w'.cell? ⟨gb623, 1, none⟩ = some (.int .i64 a0_1) ∧ w'.cell? ⟨gb623, 2, none⟩ = some (.slice (some ad634) l0_2.length c0_2) ∧ w'.cell? ⟨gb623, 3, none⟩ = some (.slice A0_3 l0_3.length c0_3) ∧ w'.cell? (ad634.add ((x11_3).toNat * 2)) = some (.int .i64 ((rd_T23 l0_2 x11_3).f0)) ∧ w'.cell? ⟨(ad634.add ((x11_3).toNat * 2)).block, (ad634.add ((x11_3).toNat * 2)).off + 1, none⟩ = some (.int .i64 ((rd_T23 l0_2 x11_3).f1)) ∧ w'.cell? (ad634.add (((ji43)).toNat * 2)) = some (.int .i64 ((rd_T23 l0_2 (ji43)).f0)) ∧ w'.cell? ⟨(ad634.add (((ji43)).toNat * 2)).block, (ad634.add (((ji43)).toNat * 2)).off + 1, none⟩ = some (.int .i64 ((rd_T23 l0_2 (ji43)).f1))) ∧ (Kd.R k23 23 w' w.heap.size (fun k_ => k_ ≠ s_.1 ∧ k_ ≠ s_.2) (.slice Ao64 t628.length co64) t628) ∧ (w'.heap[gb623]? = some (.cells #[.int .i64 a0_0, .int .i64 a0_1, .slice (some ad634) l0_2.length c0_2, .slice A0_3 l0_3.length c0_3] 27 (0, 0))) ∧ (w'.heap[s_.1]? = some (.cells #[.int .i64 0, .int .i64 0] 23 (0, 0))) ∧ (w'.heap[s_.2]? = some (.cells #[.int .i64 0, .int .i64 0] 23 (0, 0))) ∧ (w.heap.size ≤ s_.1) ∧ (w.heap.size ≤ s_.1) ∧ (gb623 ≠ s_.1) ∧ (s_.1 ≠ gb623) ∧ (s_.2 ≠ s_.1) ∧ (s_.1 ≠ s_.2) ∧ (w.heap.size ≤ s_.2) ∧ (w.heap.size ≤ s_.2) ∧ (gb623 ≠ s_.2) ∧ (s_.2 ≠ gb623) ∧ (Below w.heap.size w w')) ?_ ?_
                    rotate_left
                    ·intro hCont
                     refine two_ (i := 11) (j := 12) (Ni := some 12) (Nj := some 13) (bl 15 4095) (bl 15 6143) rfl rfl rfl rfl (two_of HT_.out (by kernel_rfl)) (by decide) (by decide) (fun K hK => ?_) (fun K hK => ?_)
                     ·skip
                      refine bxs 12 #[.int .i64 0, .int .i64 0] 23 ?_
                      intro gb636 hg w66 hbox hb
                      have n0_ := rE HO_7 hg hb
                      have n1_ := Aside0.mk (blk_below (uK BK623.out) hb)
                      have n2_ := Aside0.mk (below_step uB hb)
                      have n3_ := Aside0.mk (hbox)
                      have n4_ := gw hg
                      have n5_ := gw hg
                      have n6_ := nb BK623 hg
                      have n7_ := nc BK623 hg
                      clear HO_7 BK623 HB
                      have HO_7 := n0_
                      have BK623 := n1_
                      have HB := n2_
                      have BK636 := n3_
                      have GW636 := n4_
                      have GE636 := n5_
                      have NB623_636 := n6_
                      have NB636_623 := n7_
                      clear n0_ n1_ n2_ n3_ n4_ n5_ n6_ n7_
                      clear hb hbox hg
                      refine hK.out _ _ ⟨(blk_cell BK623.out 0).trans rfl, (blk_cell BK623.out 1).trans rfl, (blk_cell BK623.out 2).trans rfl, (blk_cell BK623.out 3).trans rfl, (hcell HB.out hw634_0), (hcell HB.out hw634_1), (hcell HB.out hw635_0), (hcell HB.out hw635_1)⟩ (fun hHeld => ?_)
                      clear hK K
                      refine nm ?_
                      refine one_ (i := 12) (N := some 13) (bl 15 8191) rfl rfl (one_of HT_.out (by kernel_rfl)) (by decide) (fun K hK => ?_)
                      refine bxs 13 #[.int .i64 0, .int .i64 0] 23 ?_
                      intro gb637 hg w67 hbox hb
                      have n0_ := rE HO_7 hg hb
                      have n1_ := Aside0.mk (blk_below (uK BK623.out) hb)
                      have n2_ := Aside0.mk (blk_below (uK BK636.out) hb)
                      have n3_ := Aside0.mk (below_step uB hb)
                      have n4_ := Aside0.mk (hbox)
                      have n5_ := gw hg
                      have n6_ := gw hg
                      have n7_ := nb BK623 hg
                      have n8_ := nc BK623 hg
                      have n9_ := nb BK636 hg
                      have n10_ := nc BK636 hg
                      clear HO_7 BK623 BK636 HB
                      have HO_7 := n0_
                      have BK623 := n1_
                      have BK636 := n2_
                      have HB := n3_
                      have BK637 := n4_
                      have GW637 := n5_
                      have GE637 := n6_
                      have NB623_637 := n7_
                      have NB637_623 := n8_
                      have NB636_637 := n9_
                      have NB637_636 := n10_
                      clear n0_ n1_ n2_ n3_ n4_ n5_ n6_ n7_ n8_ n9_ n10_
                      clear hb hbox hg
                      refine hK.out _ _ ⟨(blk_cell BK623.out 0).trans rfl, (blk_cell BK623.out 1).trans rfl, (blk_cell BK623.out 2).trans rfl, (blk_cell BK623.out 3).trans rfl, (hcell HB.out hw634_0), (hcell HB.out hw634_1), (hcell HB.out hw635_0), (hcell HB.out hw635_1)⟩ (fun hHeld => ?_)
                      clear hK K
                      refine nm ?_
                      exact norm_ (by simp only [putAll, Act.put, List.setIfInBounds_toArray, List.set_cons_zero, List.set_cons_succ]) (hCont (gb636, gb637) _ ⟨hHeld, (by refine uR ?_; exact Kd.R_mono HO_7.out (fun _ hk => ⟨hk.1.2, hk.2⟩)), (uK BK623.out), (uK BK636.out), (uK BK637.out), GW636.out, GE636.out, NB623_636.out, NB636_623.out, NB637_636.out, NB636_637.out, GW637.out, GE637.out, NB623_637.out, NB637_623.out, uB⟩)
                     ·skip
                      refine bxs 13 #[.int .i64 0, .int .i64 0] 23 ?_
                      intro gb637 hg w66 hbox hb
                      have n0_ := rE HO_7 hg hb
                      have n1_ := Aside0.mk (blk_below (uK BK623.out) hb)
                      have n2_ := Aside0.mk (below_step uB hb)
                      have n3_ := Aside0.mk (hbox)
                      have n4_ := gw hg
                      have n5_ := gw hg
                      have n6_ := nb BK623 hg
                      have n7_ := nc BK623 hg
                      clear HO_7 BK623 HB
                      have HO_7 := n0_
                      have BK623 := n1_
                      have HB := n2_
                      have BK637 := n3_
                      have GW637 := n4_
                      have GE637 := n5_
                      have NB623_637 := n6_
                      have NB637_623 := n7_
                      clear n0_ n1_ n2_ n3_ n4_ n5_ n6_ n7_
                      clear hb hbox hg
                      refine hK.out _ _ ⟨(blk_cell BK623.out 0).trans rfl, (blk_cell BK623.out 1).trans rfl, (blk_cell BK623.out 2).trans rfl, (blk_cell BK623.out 3).trans rfl, (hcell HB.out hw634_0), (hcell HB.out hw634_1), (hcell HB.out hw635_0), (hcell HB.out hw635_1)⟩ (fun hHeld => ?_)
                      clear hK K
                      refine nm ?_
                      refine one_ (i := 11) (N := some 12) (bl 15 8191) rfl rfl (one_of HT_.out (by kernel_rfl)) (by decide) (fun K hK => ?_)
                      refine bxs 12 #[.int .i64 0, .int .i64 0] 23 ?_
                      intro gb636 hg w67 hbox hb
                      have n0_ := rE HO_7 hg hb
                      have n1_ := Aside0.mk (blk_below (uK BK623.out) hb)
                      have n2_ := Aside0.mk (blk_below (uK BK637.out) hb)
                      have n3_ := Aside0.mk (below_step uB hb)
                      have n4_ := Aside0.mk (hbox)
                      have n5_ := gw hg
                      have n6_ := gw hg
                      have n7_ := nb BK623 hg
                      have n8_ := nc BK623 hg
                      have n9_ := nb BK637 hg
                      have n10_ := nc BK637 hg
                      clear HO_7 BK623 BK637 HB
                      have HO_7 := n0_
                      have BK623 := n1_
                      have BK637 := n2_
                      have HB := n3_
                      have BK636 := n4_
                      have GW636 := n5_
                      have GE636 := n6_
                      have NB623_636 := n7_
                      have NB636_623 := n8_
                      have NB637_636 := n9_
                      have NB636_637 := n10_
                      clear n0_ n1_ n2_ n3_ n4_ n5_ n6_ n7_ n8_ n9_ n10_
                      clear hb hbox hg
                      refine hK.out _ _ ⟨(blk_cell BK623.out 0).trans rfl, (blk_cell BK623.out 1).trans rfl, (blk_cell BK623.out 2).trans rfl, (blk_cell BK623.out 3).trans rfl, (hcell HB.out hw634_0), (hcell HB.out hw634_1), (hcell HB.out hw635_0), (hcell HB.out hw635_1)⟩ (fun hHeld => ?_)
                      clear hK K
                      refine nm ?_
                      exact norm_ (by simp only [putAll, Act.put, List.setIfInBounds_toArray, List.set_cons_zero, List.set_cons_succ]) (hCont (gb636, gb637) _ ⟨hHeld, (by refine uR ?_; exact Kd.R_mono HO_7.out (fun _ hk => ⟨hk.2, hk.1.2⟩)), (uK BK623.out), (uK BK636.out), (uK BK637.out), GW636.out, GE636.out, NB623_636.out, NB636_623.out, NB637_636.out, NB636_637.out, GW637.out, GE637.out, NB623_637.out, NB637_623.out, uB⟩)
                    rintro ⟨gb636, gb637⟩ w68 ⟨hS_, h0_, h1_, h2_, h3_, h4_, h5_, h6_, h7_, h8_, h9_, h10_, h11_, h12_, h13_, h14_⟩
                    try dsimp only at h0_ h1_ h2_ h3_ h4_ h5_ h6_ h7_ h8_ h9_ h10_ h11_ h12_ h13_ h14_
                    have n0_ := Aside0.mk h0_
                    have n1_ := Aside0.mk h1_
                    have n2_ := Aside0.mk h2_
                    have n3_ := Aside0.mk h3_
                    have n4_ := Aside0.mk h4_
                    have n5_ := Aside0.mk h5_
                    have n6_ := Aside0.mk h6_
                    have n7_ := Aside0.mk h7_
                    have n8_ := Aside0.mk h8_
                    have n9_ := Aside0.mk h9_
                    have n10_ := Aside0.mk h10_
                    have n11_ := Aside0.mk h11_
                    have n12_ := Aside0.mk h12_
                    have n13_ := Aside0.mk h13_
                    have n14_ := Aside0.mk h14_
                    clear HO_7 BK623 HB
                    clear h0_ h1_ h2_ h3_ h4_ h5_ h6_ h7_ h8_ h9_ h10_ h11_ h12_ h13_ h14_
                    have HO_7 := n0_
                    have BK623 := n1_
                    have BK636 := n2_
                    have BK637 := n3_
                    have GW636 := n4_
                    have GE636 := n5_
                    have NB623_636 := n6_
                    have NB636_623 := n7_
                    have NB637_636 := n8_
                    have NB636_637 := n9_
                    have GW637 := n10_
                    have GE637 := n11_
                    have NB623_637 := n12_
                    have NB637_623 := n13_
                    have HB := n14_
                    clear n0_ n1_ n2_ n3_ n4_ n5_ n6_ n7_ n8_ n9_ n10_ n11_ n12_ n13_ n14_
                    have hHeld : w68.cell? ⟨gb623, 0, none⟩ = some (.int .i64 a0_0) ∧ w68.cell? ⟨gb623, 1, none⟩ = some (.int .i64 a0_1) ∧ w68.cell? ⟨gb623, 2, none⟩ = some (.slice (some ad634) l0_2.length c0_2) ∧ w68.cell? ⟨gb623, 3, none⟩ = some (.slice A0_3 l0_3.length c0_3) ∧ w68.cell? (ad634.add ((x11_3).toNat * 2)) = some (.int .i64 ((rd_T23 l0_2 x11_3).f0)) ∧ w68.cell? ⟨(ad634.add ((x11_3).toNat * 2)).block, (ad634.add ((x11_3).toNat * 2)).off + 1, none⟩ = some (.int .i64 ((rd_T23 l0_2 x11_3).f1)) ∧ w68.cell? (ad634.add (((ji43)).toNat * 2)) = some (.int .i64 ((rd_T23 l0_2 (ji43)).f0)) ∧ w68.cell? ⟨(ad634.add (((ji43)).toNat * 2)).block, (ad634.add (((ji43)).toNat * 2)).off + 1, none⟩ = some (.int .i64 ((rd_T23 l0_2 (ji43)).f1)) := hS_
                    refine nm ?_
                    refine one_ (i := 13) (N := none) (bl 15 16383) rfl rfl (one_of HT_.out (by kernel_rfl)) (by decide) (fun K hK => ?_)
                    have hs69 := (blk_cell BK636.out 0).trans rfl
                    have hfs69 := blk_frozen BK636.out 0
                    have hns69_0 := NB623_636.out
                    have hns69_2 := NB637_636.out
                    have hms69_0 := NB636_623.out
                    have hms69_2 := NB636_637.out
                    have hs70 := (blk_cell BK636.out 1).trans rfl
                    have hfs70 := blk_frozen BK636.out 1
                    have hns70_0 := NB623_636.out
                    have hns70_2 := NB637_636.out
                    have hms70_0 := NB636_623.out
                    have hms70_2 := NB636_637.out
                    refine skip_ (w1 := ?_) (by rfl) rfl ?_ ?_
                    rotate_left
                    ·go_simp
                     rfl
                    refine hK.out _ _ ⟨((cf gb636 NB623_636.out).trans (((cf gb636 NB623_636.out).trans (hHeld.1)))), ((cf gb636 NB623_636.out).trans (((cf gb636 NB623_636.out).trans (hHeld.2.1)))), ((cf gb636 NB623_636.out).trans (((cf gb636 NB623_636.out).trans (hHeld.2.2.1)))), ((cf gb636 NB623_636.out).trans (((cf gb636 NB623_636.out).trans (hHeld.2.2.2.1)))), ((cf gb636 (fl hw634_0 GW636)).trans (((cf gb636 (fl hw634_0 GW636)).trans (hHeld.2.2.2.2.1)))), ((cf gb636 (fl hw634_1 GW636)).trans (((cf gb636 (fl hw634_1 GW636)).trans (hHeld.2.2.2.2.2.1)))), ((cf gb636 (fl hw635_0 GW636)).trans (((cf gb636 (fl hw635_0 GW636)).trans (hHeld.2.2.2.2.2.2.1)))), ((cf gb636 (fl hw635_1 GW636)).trans (((cf gb636 (fl hw635_1 GW636)).trans (hHeld.2.2.2.2.2.2.2))))⟩ (fun hHeld => ?_)
                    clear hK K
                    refine one_ (i := 14) (N := none) (bl 15 32767) rfl rfl (one_of HT_.out (by kernel_rfl)) (by decide) (fun K hK => ?_)
                    have hs71 := (blk_cell BK637.out 0).trans rfl
                    have hfs71 := blk_frozen BK637.out 0
                    have hns71_0 := NB623_637.out
                    have hns71_1 := NB636_637.out
                    have hms71_0 := NB637_623.out
                    have hms71_1 := NB637_636.out
                    have hs72 := (blk_cell BK637.out 1).trans rfl
                    have hfs72 := blk_frozen BK637.out 1
                    have hns72_0 := NB623_637.out
                    have hns72_1 := NB636_637.out
                    have hms72_0 := NB637_623.out
                    have hms72_1 := NB637_636.out
                    refine skip_ (w1 := ?_) (by rfl) rfl ?_ ?_
                    rotate_left
                    ·go_simp
                     rfl
                    refine hK.out _ _ ⟨((cf gb637 NB623_637.out).trans (((cf gb637 NB623_637.out).trans (hHeld.1)))), ((cf gb637 NB623_637.out).trans (((cf gb637 NB623_637.out).trans (hHeld.2.1)))), ((cf gb637 NB623_637.out).trans (((cf gb637 NB623_637.out).trans (hHeld.2.2.1)))), ((cf gb637 NB623_637.out).trans (((cf gb637 NB623_637.out).trans (hHeld.2.2.2.1)))), ((cf gb637 (fl hw634_0 GW637)).trans (((cf gb637 (fl hw634_0 GW637)).trans (hHeld.2.2.2.2.1)))), ((cf gb637 (fl hw634_1 GW637)).trans (((cf gb637 (fl hw634_1 GW637)).trans (hHeld.2.2.2.2.2.1)))), ((cf gb637 (fl hw635_0 GW637)).trans (((cf gb637 (fl hw635_0 GW637)).trans (hHeld.2.2.2.2.2.2.1)))), ((cf gb637 (fl hw635_1 GW637)).trans (((cf gb637 (fl hw635_1 GW637)).trans (hHeld.2.2.2.2.2.2.2))))⟩ (fun hHeld => ?_)
                    clear hK K
                    refine done_ (done_of HT_.out (by kernel_rfl)) ?_
                    try go_wp2
                    have n0_ : Aside0 (Kd.R k23 23 ((((w68.setCell ⟨gb636, 0, none⟩ (.int .i64 ((rd_T23 l0_2 x11_3).f0))).setCell ⟨gb636, 1, none⟩ (.int .i64 ((rd_T23 l0_2 x11_3).f1))).setCell ⟨gb637, 0, none⟩ (.int .i64 ((rd_T23 l0_2 (ji43)).f0))).setCell ⟨gb637, 1, none⟩ (.int .i64 ((rd_T23 l0_2 (ji43)).f1))) w.heap.size (fun k_ => k_ ≠ gb636 ∧ k_ ≠ gb637) (.slice Ao64 t628.length co64) t628) := ⟨by refine uR ?_; exact Kd.R_mono (Kd.R_far (p := ⟨gb637, 1, none⟩) (Kd.R_far (p := ⟨gb637, 0, none⟩) (Kd.R_far (p := ⟨gb636, 1, none⟩) (Kd.R_far (p := ⟨gb636, 0, none⟩) (Kd.R_mono (Kd.R_mono HO_7.out (fun k_ hk => (⟨hk, hk.1⟩ : _ ∧ k_ ≠ gb636))) (fun k_ hk => (⟨hk, hk.1.2⟩ : _ ∧ k_ ≠ gb637))) (fun _ hk => hk.1.2) (.int .i64 ((rd_T23 l0_2 x11_3).f0))) (fun _ hk => hk.1.2) (.int .i64 ((rd_T23 l0_2 x11_3).f1))) (fun _ hk => hk.2) (.int .i64 ((rd_T23 l0_2 (ji43)).f0))) (fun _ hk => hk.2) (.int .i64 ((rd_T23 l0_2 (ji43)).f1))) (fun _ hk => ⟨hk.1.1.1, hk.1.1.2⟩)⟩
                    have n1_ : Aside0 (((((w68.setCell ⟨gb636, 0, none⟩ (.int .i64 ((rd_T23 l0_2 x11_3).f0))).setCell ⟨gb636, 1, none⟩ (.int .i64 ((rd_T23 l0_2 x11_3).f1))).setCell ⟨gb637, 0, none⟩ (.int .i64 ((rd_T23 l0_2 (ji43)).f0))).setCell ⟨gb637, 1, none⟩ (.int .i64 ((rd_T23 l0_2 (ji43)).f1))).heap[gb623]? = some (.cells #[.int .i64 a0_0, .int .i64 a0_1, .slice (some ad634) l0_2.length c0_2, .slice A0_3 l0_3.length c0_3] 27 (0, 0))) := ⟨by refine uK ?_; refine blk_far ?_ NB623_637.out _; refine uK ?_; refine blk_far ?_ NB623_637.out _; refine uK ?_; refine blk_far ?_ NB623_636.out _; refine uK ?_; refine blk_far ?_ NB623_636.out _; refine uK ?_; exact BK623.out⟩
                    have n2_ : Aside0 (((((w68.setCell ⟨gb636, 0, none⟩ (.int .i64 ((rd_T23 l0_2 x11_3).f0))).setCell ⟨gb636, 1, none⟩ (.int .i64 ((rd_T23 l0_2 x11_3).f1))).setCell ⟨gb637, 0, none⟩ (.int .i64 ((rd_T23 l0_2 (ji43)).f0))).setCell ⟨gb637, 1, none⟩ (.int .i64 ((rd_T23 l0_2 (ji43)).f1))).heap[gb636]? = some (.cells #[.int .i64 ((rd_T23 l0_2 x11_3).f0), .int .i64 ((rd_T23 l0_2 x11_3).f1)] 23 (0, 0))) := ⟨by refine uK ?_; refine blk_far ?_ NB636_637.out _; refine uK ?_; refine blk_far ?_ NB636_637.out _; refine uK ?_; refine blk_put (cs := #[.int .i64 ((rd_T23 l0_2 x11_3).f0), .int .i64 0]) ?_ 1 _ rfl; refine uK ?_; refine blk_put (cs := #[.int .i64 0, .int .i64 0]) ?_ 0 _ rfl; refine uK ?_; exact BK636.out⟩
                    have n3_ : Aside0 (((((w68.setCell ⟨gb636, 0, none⟩ (.int .i64 ((rd_T23 l0_2 x11_3).f0))).setCell ⟨gb636, 1, none⟩ (.int .i64 ((rd_T23 l0_2 x11_3).f1))).setCell ⟨gb637, 0, none⟩ (.int .i64 ((rd_T23 l0_2 (ji43)).f0))).setCell ⟨gb637, 1, none⟩ (.int .i64 ((rd_T23 l0_2 (ji43)).f1))).heap[gb637]? = some (.cells #[.int .i64 ((rd_T23 l0_2 (ji43)).f0), .int .i64 ((rd_T23 l0_2 (ji43)).f1)] 23 (0, 0))) := ⟨by refine uK ?_; refine blk_put (cs := #[.int .i64 ((rd_T23 l0_2 (ji43)).f0), .int .i64 0]) ?_ 1 _ rfl; refine uK ?_; refine blk_put (cs := #[.int .i64 0, .int .i64 0]) ?_ 0 _ rfl; refine uK ?_; refine blk_far ?_ NB637_636.out _; refine uK ?_; refine blk_far ?_ NB637_636.out _; refine uK ?_; exact BK637.out⟩
                    have n4_ : Aside0 (Below w.heap.size w ((((w68.setCell ⟨gb636, 0, none⟩ (.int .i64 ((rd_T23 l0_2 x11_3).f0))).setCell ⟨gb636, 1, none⟩ (.int .i64 ((rd_T23 l0_2 x11_3).f1))).setCell ⟨gb637, 0, none⟩ (.int .i64 ((rd_T23 l0_2 (ji43)).f0))).setCell ⟨gb637, 1, none⟩ (.int .i64 ((rd_T23 l0_2 (ji43)).f1)))) := ⟨uB⟩
                    (try clear HO_7)
                    (try clear BK623)
                    (try clear BK636)
                    (try clear BK637)
                    (try clear HB)
                    generalize ((((w68.setCell ⟨gb636, 0, none⟩ (.int .i64 ((rd_T23 l0_2 x11_3).f0))).setCell ⟨gb636, 1, none⟩ (.int .i64 ((rd_T23 l0_2 x11_3).f1))).setCell ⟨gb637, 0, none⟩ (.int .i64 ((rd_T23 l0_2 (ji43)).f0))).setCell ⟨gb637, 1, none⟩ (.int .i64 ((rd_T23 l0_2 (ji43)).f1))) = w73 at n0_ n1_ n2_ n3_ n4_ ⊢
                    have HO_7 := n0_
                    have BK623 := n1_
                    have BK636 := n2_
                    have BK637 := n3_
                    have HB := n4_
                    clear n0_ n1_ n2_ n3_ n4_
                    replace HO_7 := Aside0.mk (Kd.R_drew HO_7.out)
                    replace BK623 := Aside0.mk (blk_drew BK623.out)
                    replace BK636 := Aside0.mk (blk_drew BK636.out)
                    replace BK637 := Aside0.mk (blk_drew BK637.out)
                    replace HB := Aside0.mk (below_drew1 HB.out)
                    have p638 : 0 ≤ (x11_3 : Int) := of_decide_eq_true (by first | (with_reducible assumption) | assumption)
                    have q638 : x11_3 < (l2.length : Int) := of_decide_eq_true (by first | (with_reducible assumption) | assumption)
                    obtain ⟨ad638, e638, hx638_0⟩ := Kd.at_int HR2.out x11_3 p638 q638
                    have hw638_0 := hx638_0
                    cases e638
                    replace hx638_0 := hcell HB.out hx638_0
                    replace p638 := eq_true p638
                    replace q638 := eq_true q638
                    have p639 : 0 ≤ ((ji43) : Int) := of_decide_eq_true (by first | (with_reducible assumption) | assumption)
                    have q639 : (ji43) < (l2.length : Int) := of_decide_eq_true (by first | (with_reducible assumption) | assumption)
                    obtain ⟨ad639, e639, hx639_0⟩ := Kd.at_int HR2.out (ji43) p639 q639
                    have hw639_0 := hx639_0
                    obtain rfl : ad638 = ad639 := (by injection e639)
                    replace hx639_0 := hcell HB.out hx639_0
                    replace p639 := eq_true p639
                    replace q639 := eq_true q639
                    refine start_ (n := 12) (S := fun w' => w'.cell? (ad638.add (x11_3).toNat) = some (.int .i64 (rd l2 x11_3)) ∧ w'.cell? (ad638.add ((ji43)).toNat) = some (.int .i64 (rd l2 (ji43)))) (ds := []) (bl 12 0) (by kernel_rfl) rfl rfl ⟨(hcell HB.out hw638_0), (hcell HB.out hw639_0)⟩ (fun hHeld => ?_); refine with_tabW quinarialaw02_ChannelHeights.tab11 quinarialaw02_ChannelHeights.bits11 (fun HT_ HW_ => ?_)
                    generalize w73.drew = w74 at HO_7 BK623 BK636 BK637 HB hx638_0 hx639_0 hHeld ⊢
                    refine pu 0 76 12 1 ?_
                    refine pu 1 77 12 3 ?_
                    refine pu 2 78 12 7 ?_
                    refine pu 3 79 12 15 ?_
                    refine pu 5 81 12 47 ?_
                    refine pu 6 82 12 111 ?_
                    refine pu 7 83 12 239 ?_
                    refine pu 8 84 12 495 ?_
                    refine tk2 4 80 12 511 hHeld ?_
                    refine tk2 9 85 12 1023 hHeld ?_
                    refine one_ (i := 10) (N := some 86) (bl 12 2047) rfl rfl (one_of HT_.out (by kernel_rfl)) (by decide) (fun K hK => ?_)
                    refine goes_ Tryz.func22 (by kernel_rfl) rfl #[.int .i64 a1, .int .i64 (rd l2 x11_3), .int .i64 (rd l2 (ji43))] (by rfl) rfl rfl (by (try simp only [List.map_toArray, List.map_cons, List.map_nil]); first | done | (simp only [hji43]; rfl) | rfl | (simp only [List.length_drop, List.length_take]; rfl)) ?_
                    with_reducible refine (quinariaref02_Pressure.calls a1 (rd l2 x11_3) (rd l2 (ji43)) t640 _ A48.out).mono ?_
                    rintro e w75 ⟨rfl, hb⟩
                    refine ⟨_, rfl, ?_⟩
                    replace HO_7 := Aside0.mk (Kd.R_below (uR HO_7.out) hb)
                    replace BK623 := Aside0.mk (blk_below (uK BK623.out) hb)
                    replace BK636 := Aside0.mk (blk_below (uK BK636.out) hb)
                    replace BK637 := Aside0.mk (blk_below (uK BK637.out) hb)
                    replace HB := Aside0.mk (below_step uB hb)
                    (try clear hb)
                    (try clear hb2)
                    (try clear hk)
                    (try clear hi)
                    refine hK.out _ _ ⟨(hcell HB.out hw638_0), (hcell HB.out hw639_0)⟩ (fun hHeld => ?_)
                    clear hK K
                    refine nm ?_
                    refine pu 11 14 12 4095 ?_
                    refine done_ (done_of HT_.out (by kernel_rfl)) ?_
                    try go_wp2
                    replace HO_7 := Aside0.mk (Kd.R_drew HO_7.out)
                    replace BK623 := Aside0.mk (blk_drew BK623.out)
                    replace BK636 := Aside0.mk (blk_drew BK636.out)
                    replace BK637 := Aside0.mk (blk_drew BK637.out)
                    replace HB := Aside0.mk (below_drew1 HB.out)
                    have p641 : 0 ≤ (x11_3 : Int) := of_decide_eq_true (by first | (with_reducible assumption) | assumption)
                    have q641 : x11_3 < (t628.length : Int) := of_decide_eq_true (by first | (with_reducible assumption) | assumption)
                    obtain ⟨ad641, e641, hx641_0, hx641_1⟩ := at_T23 (Kd.R_reads' HO_7.out).2.2 x11_3 p641 q641
                    cases e641
                    replace p641 := eq_true p641
                    replace q641 := eq_true q641
                    have p642 : 0 ≤ (x11_3 : Int) := of_decide_eq_true (by first | (with_reducible assumption) | assumption)
                    have q642 : x11_3 < (t628.length : Int) := of_decide_eq_true (by first | (with_reducible assumption) | assumption)
                    obtain ⟨ad642, e642, hx642_0, hx642_1⟩ := at_T23 (Kd.R_reads' HO_7.out).2.2 x11_3 p642 q642
                    obtain rfl : ad641 = ad642 := (by injection e642)
                    replace p642 := eq_true p642
                    replace q642 := eq_true q642
                    refine start_ (n := 48) (S := fun w' => w'.cell? (ad641.add ((x11_3).toNat * 2)) = some (.int .i64 ((rd_T23 t628 x11_3).f0)) ∧ w'.cell? ⟨(ad641.add ((x11_3).toNat * 2)).block, (ad641.add ((x11_3).toNat * 2)).off + 1, none⟩ = some (.int .i64 ((rd_T23 t628 x11_3).f1)) ∧ w'.cell? (ad641.add ((x11_3).toNat * 2)) = some (.int .i64 ((rd_T23 t628 x11_3).f0)) ∧ w'.cell? ⟨(ad641.add ((x11_3).toNat * 2)).block, (ad641.add ((x11_3).toNat * 2)).off + 1, none⟩ = some (.int .i64 ((rd_T23 t628 x11_3).f1))) (ds := []) (bl 48 0) (by kernel_rfl) rfl rfl ⟨hx641_0, hx641_1, hx642_0, hx642_1⟩ (fun hHeld => ?_); refine with_tabW quinarialaw02_ChannelHeights.tab12 quinarialaw02_ChannelHeights.bits12 (fun HT_ HW_ => ?_)
                    generalize w75.drew = w76 at HO_7 BK623 BK636 BK637 HB hx641_0 hx641_1 hx642_0 hx642_1 hHeld ⊢
                    refine pu 0 87 48 1 ?_
                    refine pu 1 88 48 3 ?_
                    refine pu 2 89 48 7 ?_
                    refine pu 3 90 48 15 ?_
                    refine pu 4 91 48 31 ?_
                    refine tk4 5 92 48 63 hHeld ?_
                    refine pu 6 93 48 127 ?_
                    refine pu 7 94 48 255 ?_
                    refine pu 8 95 48 511 ?_
                    refine pu 9 96 48 1023 ?_
                    refine pu 10 97 48 2047 ?_
                    refine pu 11 98 48 4095 ?_
                    refine pu 12 99 48 8191 ?_
                    refine tk4 13 100 48 16383 hHeld ?_
                    refine pu 14 101 48 32767 ?_
                    refine pu 15 102 48 65535 ?_
                    refine pu 16 103 48 131071 ?_
                    refine pd 17 104 48 262143 ?_
                    refine pd 18 105 48 524287 ?_
                    refine pd 19 106 48 1048575 ?_
                    refine pd 20 107 48 2097151 ?_
                    refine pd 21 108 48 4194303 ?_
                    refine pd 22 109 48 8388607 ?_
                    refine pd 23 110 48 16777215 ?_
                    refine pd 24 111 48 33554431 ?_
                    refine pd 25 112 48 67108863 ?_
                    refine pd 26 113 48 134217727 ?_
                    refine pd 27 114 48 268435455 ?_
                    refine pd 28 115 48 536870911 ?_
                    refine pd 29 116 48 1073741823 ?_
                    refine pd 30 117 48 2147483647 ?_
                    refine pu 31 118 48 4294967295 ?_
                    refine pu 32 119 48 8589934591 ?_
                    refine pd 33 120 48 17179869183 ?_
                    refine pd 34 121 48 34359738367 ?_
                    refine pd 35 122 48 68719476735 ?_
                    refine pd 36 123 48 137438953471 ?_
                    refine pd 37 124 48 274877906943 ?_
                    refine pd 38 125 48 549755813887 ?_
                    refine pd 39 126 48 1099511627775 ?_
                    refine pd 40 127 48 2199023255551 ?_
                    refine pd 41 128 48 4398046511103 ?_
                    refine pd 42 129 48 8796093022207 ?_
                    refine pd 43 130 48 17592186044415 ?_
                    refine pd 44 131 48 35184372088831 ?_
                    refine pd 45 132 48 70368744177663 ?_
                    refine pd 46 133 48 140737488355327 ?_
                    refine pu 47 134 48 281474976710655 ?_
                    refine done_ (done_of HT_.out (by kernel_rfl)) ?_
                    try go_wp2
                    go_ret
                    exact ⟨by first | rfl | (simp [errW_none, errW_some] <;> rfl) | (simp only [← hji43]; first | rfl | (simp [errW_none, errW_some] <;> rfl)) | (simp [*, errW_none, errW_some] <;> rfl), uB⟩
                  ·as_aux_lemma =>
                    rw [if_neg c63] at H
                    replace c63 := decide_eq_false c63
                    replace H := Option.bind_eq_some_iff.mp H
                    obtain ⟨t644, A770, H⟩ := H
                    replace H : (if ((rd_T23 t628 x11_3).f1) = t644 then ((quinariaref02_Pressure.f a0_0 ((rd_T23 l0_2 x11_3).f1) ((rd_T23 l0_2 (ji43)).f1)).bind fun t646 => (if ((rd_T23 t628 x11_3).f0) = t646 then (quinarialaw02_ChannelHeights.l0 k3 a1 l2 t628 t632 ji43 a0_0 a0_1 l0_2 l0_3) else (some false))) else (some false)) = some r := H
                    have A77 := Aside0.mk A770
                    clear A770
                    by_cases c78 : ((rd_T23 t628 x11_3).f1) = t644
                    ·as_aux_lemma =>
                      rw [if_pos c78] at H
                      have c78b0 : (((rd_T23 t628 x11_3).f1) == t644) = true := beq_iff_eq.mpr c78
                      have c78b1 : (((rd_T23 t628 x11_3).f1) != t644) = false := bne_eq_false_iff_eq.mpr c78
                      clear c78
                      replace H := Option.bind_eq_some_iff.mp H
                      obtain ⟨t646, A790, H⟩ := H
                      replace H : (if ((rd_T23 t628 x11_3).f0) = t646 then (quinarialaw02_ChannelHeights.l0 k3 a1 l2 t628 t632 ji43 a0_0 a0_1 l0_2 l0_3) else (some false)) = some r := H
                      have A79 := Aside0.mk A790
                      clear A790
                      by_cases c80 : ((rd_T23 t628 x11_3).f0) = t646
                      ·as_aux_lemma =>
                        rw [if_pos c80] at H
                        have c80b0 : (((rd_T23 t628 x11_3).f0) == t646) = true := beq_iff_eq.mpr c80
                        have c80b1 : (((rd_T23 t628 x11_3).f0) != t646) = false := bne_eq_false_iff_eq.mpr c80
                        clear c80
                        have H' := Aside0.mk H
                        clear H
                        obtain ⟨Ao81, co81, eo81⟩ := Kd.R_slice HO_7.out
                        subst eo81
                        try go_wp2
                        replace HO_7 := Aside0.mk (Kd.R_drew HO_7.out)
                        replace BK623 := Aside0.mk (blk_drew BK623.out)
                        replace HB := Aside0.mk (below_drew1 HB.out)
                        have p634 : 0 ≤ (x11_3 : Int) := of_decide_eq_true (by first | (with_reducible assumption) | assumption)
                        have q634 : x11_3 < (l0_2.length : Int) := of_decide_eq_true (by first | (with_reducible assumption) | assumption)
                        obtain ⟨ad634, e634, hx634_0, hx634_1⟩ := at_T23 HR0_2.out x11_3 p634 q634
                        have hw634_1 := hx634_1
                        have hw634_0 := hx634_0
                        cases e634
                        replace hx634_0 := hcell HB.out hx634_0
                        replace hx634_1 := hcell HB.out hx634_1
                        replace p634 := eq_true p634
                        replace q634 := eq_true q634
                        have p635 : 0 ≤ ((ji43) : Int) := of_decide_eq_true (by first | (with_reducible assumption) | assumption)
                        have q635 : (ji43) < (l0_2.length : Int) := of_decide_eq_true (by first | (with_reducible assumption) | assumption)
                        obtain ⟨ad635, e635, hx635_0, hx635_1⟩ := at_T23 HR0_2.out (ji43) p635 q635
                        have hw635_1 := hx635_1
                        have hw635_0 := hx635_0
                        obtain rfl : ad634 = ad635 := (by injection e635)
                        replace hx635_0 := hcell HB.out hx635_0
                        replace hx635_1 := hcell HB.out hx635_1
                        replace p635 := eq_true p635
                        replace q635 := eq_true q635
                        refine start_ (n := 15) (S := fun w' => w'.cell? ⟨gb623, 0, none⟩ = some (.int .i64 a0_0) ∧ w'.cell? ⟨gb623, 1, none⟩ = some (.int .i64 a0_1) ∧ w'.cell? ⟨gb623, 2, none⟩ = some (.slice (some ad634) l0_2.length c0_2) ∧ w'.cell? ⟨gb623, 3, none⟩ = some (.slice A0_3 l0_3.length c0_3) ∧ w'.cell? (ad634.add ((x11_3).toNat * 2)) = some (.int .i64 ((rd_T23 l0_2 x11_3).f0)) ∧ w'.cell? ⟨(ad634.add ((x11_3).toNat * 2)).block, (ad634.add ((x11_3).toNat * 2)).off + 1, none⟩ = some (.int .i64 ((rd_T23 l0_2 x11_3).f1)) ∧ w'.cell? (ad634.add (((ji43)).toNat * 2)) = some (.int .i64 ((rd_T23 l0_2 (ji43)).f0)) ∧ w'.cell? ⟨(ad634.add (((ji43)).toNat * 2)).block, (ad634.add (((ji43)).toNat * 2)).off + 1, none⟩ = some (.int .i64 ((rd_T23 l0_2 (ji43)).f1))) (ds := []) (bl 15 0) (by kernel_rfl) rfl rfl ⟨(blk_cell BK623.out 0).trans rfl, (blk_cell BK623.out 1).trans rfl, (blk_cell BK623.out 2).trans rfl, (blk_cell BK623.out 3).trans rfl, (hcell HB.out hw634_0), (hcell HB.out hw634_1), (hcell HB.out hw635_0), (hcell HB.out hw635_1)⟩ (fun hHeld => ?_); refine with_tabW quinarialaw02_ChannelHeights.tab10 quinarialaw02_ChannelHeights.bits10 (fun HT_ HW_ => ?_)
                        generalize wr.drew = w82 at HO_7 BK623 HB hx634_0 hx634_1 hx635_0 hx635_1 hHeld ⊢
                        refine pu 0 65 15 1 ?_
                        refine pu 2 67 15 5 ?_
                        refine pu 5 70 15 37 ?_
                        refine pu 7 72 15 165 ?_
                        refine pu 8 73 15 421 ?_
                        refine tk8 1 66 15 423 hHeld ?_
                        refine pu 3 68 15 431 ?_
                        refine tk8 4 69 15 447 hHeld ?_
                        refine tk8 6 71 15 511 hHeld ?_
                        refine pu 9 74 15 1023 ?_
                        refine tk8 10 75 15 2047 hHeld ?_
                        refine join_ (σ := Nat × Nat) 2 (bl 15 8191) (fun s_ => [(12, .pointer (some ⟨s_.1, 0, none⟩)), (13, .pointer (some ⟨s_.2, 0, none⟩))]) (fun s_ w' => (w'.cell? ⟨gb623, 0, none⟩ = some (.int .i64 a0_0) ∧ w'.cell? ⟨gb623, 1, none⟩ = some (.int .i64 a0_1) ∧ w'.cell? ⟨gb623, 2, none⟩ = some (.slice (some ad634) l0_2.length c0_2) ∧ w'.cell? ⟨gb623, 3, none⟩ = some (.slice A0_3 l0_3.length c0_3) ∧ w'.cell? (ad634.add ((x11_3).toNat * 2)) = some (.int .i64 ((rd_T23 l0_2 x11_3).f0)) ∧ w'.cell? ⟨(ad634.add ((x11_3).toNat * 2)).block, (ad634.add ((x11_3).toNat * 2)).off + 1, none⟩ = some (.int .i64 ((rd_T23 l0_2 x11_3).f1)) ∧ w'.cell? (ad634.add (((ji43)).toNat * 2)) = some (.int .i64 ((rd_T23 l0_2 (ji43)).f0)) ∧ w'.cell? ⟨(ad634.add (((ji43)).toNat * 2)).block, (ad634.add (((ji43)).toNat * 2)).off + 1, none⟩ = some (.int .i64 ((rd_T23 l0_2 (ji43)).f1))) ∧ (Kd.R k23 23 w' w.heap.size (fun k_ => k_ ≠ s_.1 ∧ k_ ≠ s_.2) (.slice Ao81 t628.length co81) t628) ∧ (w'.heap[gb623]? = some (.cells #[.int .i64 a0_0, .int .i64 a0_1, .slice (some ad634) l0_2.length c0_2, .slice A0_3 l0_3.length c0_3] 27 (0, 0))) ∧ (w'.heap[s_.1]? = some (.cells #[.int .i64 0, .int .i64 0] 23 (0, 0))) ∧ (w'.heap[s_.2]? = some (.cells #[.int .i64 0, .int .i64 0] 23 (0, 0))) ∧ (w.heap.size ≤ s_.1) ∧ (w.heap.size ≤ s_.1) ∧ (gb623 ≠ s_.1) ∧ (s_.1 ≠ gb623) ∧ (s_.2 ≠ s_.1) ∧ (s_.1 ≠ s_.2) ∧ (w.heap.size ≤ s_.2) ∧ (w.heap.size ≤ s_.2) ∧ (gb623 ≠ s_.2) ∧ (s_.2 ≠ gb623) ∧ (Below w.heap.size w w')) ?_ ?_
                        rotate_left
                        ·intro hCont
                         refine two_ (i := 11) (j := 12) (Ni := some 12) (Nj := some 13) (bl 15 4095) (bl 15 6143) rfl rfl rfl rfl (two_of HT_.out (by kernel_rfl)) (by decide) (by decide) (fun K hK => ?_) (fun K hK => ?_)
                         ·skip
                          refine bxs 12 #[.int .i64 0, .int .i64 0] 23 ?_
                          intro gb636 hg w83 hbox hb
                          have n0_ := rE HO_7 hg hb
                          have n1_ := Aside0.mk (blk_below (uK BK623.out) hb)
                          have n2_ := Aside0.mk (below_step uB hb)
                          have n3_ := Aside0.mk (hbox)
                          have n4_ := gw hg
                          have n5_ := gw hg
                          have n6_ := nb BK623 hg
                          have n7_ := nc BK623 hg
                          clear HO_7 BK623 HB
                          have HO_7 := n0_
                          have BK623 := n1_
                          have HB := n2_
                          have BK636 := n3_
                          have GW636 := n4_
                          have GE636 := n5_
                          have NB623_636 := n6_
                          have NB636_623 := n7_
                          clear n0_ n1_ n2_ n3_ n4_ n5_ n6_ n7_
                          clear hb hbox hg
                          refine hK.out _ _ ⟨(blk_cell BK623.out 0).trans rfl, (blk_cell BK623.out 1).trans rfl, (blk_cell BK623.out 2).trans rfl, (blk_cell BK623.out 3).trans rfl, (hcell HB.out hw634_0), (hcell HB.out hw634_1), (hcell HB.out hw635_0), (hcell HB.out hw635_1)⟩ (fun hHeld => ?_)
                          clear hK K
                          refine nm ?_
                          refine one_ (i := 12) (N := some 13) (bl 15 8191) rfl rfl (one_of HT_.out (by kernel_rfl)) (by decide) (fun K hK => ?_)
                          refine bxs 13 #[.int .i64 0, .int .i64 0] 23 ?_
                          intro gb637 hg w84 hbox hb
                          have n0_ := rE HO_7 hg hb
                          have n1_ := Aside0.mk (blk_below (uK BK623.out) hb)
                          have n2_ := Aside0.mk (blk_below (uK BK636.out) hb)
                          have n3_ := Aside0.mk (below_step uB hb)
                          have n4_ := Aside0.mk (hbox)
                          have n5_ := gw hg
                          have n6_ := gw hg
                          have n7_ := nb BK623 hg
                          have n8_ := nc BK623 hg
                          have n9_ := nb BK636 hg
                          have n10_ := nc BK636 hg
                          clear HO_7 BK623 BK636 HB
                          have HO_7 := n0_
                          have BK623 := n1_
                          have BK636 := n2_
                          have HB := n3_
                          have BK637 := n4_
                          have GW637 := n5_
                          have GE637 := n6_
                          have NB623_637 := n7_
                          have NB637_623 := n8_
                          have NB636_637 := n9_
                          have NB637_636 := n10_
                          clear n0_ n1_ n2_ n3_ n4_ n5_ n6_ n7_ n8_ n9_ n10_
                          clear hb hbox hg
                          refine hK.out _ _ ⟨(blk_cell BK623.out 0).trans rfl, (blk_cell BK623.out 1).trans rfl, (blk_cell BK623.out 2).trans rfl, (blk_cell BK623.out 3).trans rfl, (hcell HB.out hw634_0), (hcell HB.out hw634_1), (hcell HB.out hw635_0), (hcell HB.out hw635_1)⟩ (fun hHeld => ?_)
                          clear hK K
                          refine nm ?_
                          exact norm_ (by simp only [putAll, Act.put, List.setIfInBounds_toArray, List.set_cons_zero, List.set_cons_succ]) (hCont (gb636, gb637) _ ⟨hHeld, (by refine uR ?_; exact Kd.R_mono HO_7.out (fun _ hk => ⟨hk.1.2, hk.2⟩)), (uK BK623.out), (uK BK636.out), (uK BK637.out), GW636.out, GE636.out, NB623_636.out, NB636_623.out, NB637_636.out, NB636_637.out, GW637.out, GE637.out, NB623_637.out, NB637_623.out, uB⟩)
                         ·skip
                          refine bxs 13 #[.int .i64 0, .int .i64 0] 23 ?_
                          intro gb637 hg w83 hbox hb
                          have n0_ := rE HO_7 hg hb
                          have n1_ := Aside0.mk (blk_below (uK BK623.out) hb)
                          have n2_ := Aside0.mk (below_step uB hb)
                          have n3_ := Aside0.mk (hbox)
                          have n4_ := gw hg
                          have n5_ := gw hg
                          have n6_ := nb BK623 hg
                          have n7_ := nc BK623 hg
                          clear HO_7 BK623 HB
                          have HO_7 := n0_
                          have BK623 := n1_
                          have HB := n2_
                          have BK637 := n3_
                          have GW637 := n4_
                          have GE637 := n5_
                          have NB623_637 := n6_
                          have NB637_623 := n7_
                          clear n0_ n1_ n2_ n3_ n4_ n5_ n6_ n7_
                          clear hb hbox hg
                          refine hK.out _ _ ⟨(blk_cell BK623.out 0).trans rfl, (blk_cell BK623.out 1).trans rfl, (blk_cell BK623.out 2).trans rfl, (blk_cell BK623.out 3).trans rfl, (hcell HB.out hw634_0), (hcell HB.out hw634_1), (hcell HB.out hw635_0), (hcell HB.out hw635_1)⟩ (fun hHeld => ?_)
                          clear hK K
                          refine nm ?_
                          refine one_ (i := 11) (N := some 12) (bl 15 8191) rfl rfl (one_of HT_.out (by kernel_rfl)) (by decide) (fun K hK => ?_)
                          refine bxs 12 #[.int .i64 0, .int .i64 0] 23 ?_
                          intro gb636 hg w84 hbox hb
                          have n0_ := rE HO_7 hg hb
                          have n1_ := Aside0.mk (blk_below (uK BK623.out) hb)
                          have n2_ := Aside0.mk (blk_below (uK BK637.out) hb)
                          have n3_ := Aside0.mk (below_step uB hb)
                          have n4_ := Aside0.mk (hbox)
                          have n5_ := gw hg
                          have n6_ := gw hg
                          have n7_ := nb BK623 hg
                          have n8_ := nc BK623 hg
                          have n9_ := nb BK637 hg
                          have n10_ := nc BK637 hg
                          clear HO_7 BK623 BK637 HB
                          have HO_7 := n0_
                          have BK623 := n1_
                          have BK637 := n2_
                          have HB := n3_
                          have BK636 := n4_
                          have GW636 := n5_
                          have GE636 := n6_
                          have NB623_636 := n7_
                          have NB636_623 := n8_
                          have NB637_636 := n9_
                          have NB636_637 := n10_
                          clear n0_ n1_ n2_ n3_ n4_ n5_ n6_ n7_ n8_ n9_ n10_
                          clear hb hbox hg
                          refine hK.out _ _ ⟨(blk_cell BK623.out 0).trans rfl, (blk_cell BK623.out 1).trans rfl, (blk_cell BK623.out 2).trans rfl, (blk_cell BK623.out 3).trans rfl, (hcell HB.out hw634_0), (hcell HB.out hw634_1), (hcell HB.out hw635_0), (hcell HB.out hw635_1)⟩ (fun hHeld => ?_)
                          clear hK K
                          refine nm ?_
                          exact norm_ (by simp only [putAll, Act.put, List.setIfInBounds_toArray, List.set_cons_zero, List.set_cons_succ]) (hCont (gb636, gb637) _ ⟨hHeld, (by refine uR ?_; exact Kd.R_mono HO_7.out (fun _ hk => ⟨hk.2, hk.1.2⟩)), (uK BK623.out), (uK BK636.out), (uK BK637.out), GW636.out, GE636.out, NB623_636.out, NB636_623.out, NB637_636.out, NB636_637.out, GW637.out, GE637.out, NB623_637.out, NB637_623.out, uB⟩)
                        rintro ⟨gb636, gb637⟩ w85 ⟨hS_, h0_, h1_, h2_, h3_, h4_, h5_, h6_, h7_, h8_, h9_, h10_, h11_, h12_, h13_, h14_⟩
                        try dsimp only at h0_ h1_ h2_ h3_ h4_ h5_ h6_ h7_ h8_ h9_ h10_ h11_ h12_ h13_ h14_
                        have n0_ := Aside0.mk h0_
                        have n1_ := Aside0.mk h1_
                        have n2_ := Aside0.mk h2_
                        have n3_ := Aside0.mk h3_
                        have n4_ := Aside0.mk h4_
                        have n5_ := Aside0.mk h5_
                        have n6_ := Aside0.mk h6_
                        have n7_ := Aside0.mk h7_
                        have n8_ := Aside0.mk h8_
                        have n9_ := Aside0.mk h9_
                        have n10_ := Aside0.mk h10_
                        have n11_ := Aside0.mk h11_
                        have n12_ := Aside0.mk h12_
                        have n13_ := Aside0.mk h13_
                        have n14_ := Aside0.mk h14_
                        clear HO_7 BK623 HB
                        clear h0_ h1_ h2_ h3_ h4_ h5_ h6_ h7_ h8_ h9_ h10_ h11_ h12_ h13_ h14_
                        have HO_7 := n0_
                        have BK623 := n1_
                        have BK636 := n2_
                        have BK637 := n3_
                        have GW636 := n4_
                        have GE636 := n5_
                        have NB623_636 := n6_
                        have NB636_623 := n7_
                        have NB637_636 := n8_
                        have NB636_637 := n9_
                        have GW637 := n10_
                        have GE637 := n11_
                        have NB623_637 := n12_
                        have NB637_623 := n13_
                        have HB := n14_
                        clear n0_ n1_ n2_ n3_ n4_ n5_ n6_ n7_ n8_ n9_ n10_ n11_ n12_ n13_ n14_
                        have hHeld : w85.cell? ⟨gb623, 0, none⟩ = some (.int .i64 a0_0) ∧ w85.cell? ⟨gb623, 1, none⟩ = some (.int .i64 a0_1) ∧ w85.cell? ⟨gb623, 2, none⟩ = some (.slice (some ad634) l0_2.length c0_2) ∧ w85.cell? ⟨gb623, 3, none⟩ = some (.slice A0_3 l0_3.length c0_3) ∧ w85.cell? (ad634.add ((x11_3).toNat * 2)) = some (.int .i64 ((rd_T23 l0_2 x11_3).f0)) ∧ w85.cell? ⟨(ad634.add ((x11_3).toNat * 2)).block, (ad634.add ((x11_3).toNat * 2)).off + 1, none⟩ = some (.int .i64 ((rd_T23 l0_2 x11_3).f1)) ∧ w85.cell? (ad634.add (((ji43)).toNat * 2)) = some (.int .i64 ((rd_T23 l0_2 (ji43)).f0)) ∧ w85.cell? ⟨(ad634.add (((ji43)).toNat * 2)).block, (ad634.add (((ji43)).toNat * 2)).off + 1, none⟩ = some (.int .i64 ((rd_T23 l0_2 (ji43)).f1)) := hS_
                        refine nm ?_
                        refine one_ (i := 13) (N := none) (bl 15 16383) rfl rfl (one_of HT_.out (by kernel_rfl)) (by decide) (fun K hK => ?_)
                        have hs86 := (blk_cell BK636.out 0).trans rfl
                        have hfs86 := blk_frozen BK636.out 0
                        have hns86_0 := NB623_636.out
                        have hns86_2 := NB637_636.out
                        have hms86_0 := NB636_623.out
                        have hms86_2 := NB636_637.out
                        have hs87 := (blk_cell BK636.out 1).trans rfl
                        have hfs87 := blk_frozen BK636.out 1
                        have hns87_0 := NB623_636.out
                        have hns87_2 := NB637_636.out
                        have hms87_0 := NB636_623.out
                        have hms87_2 := NB636_637.out
                        refine skip_ (w1 := ?_) (by rfl) rfl ?_ ?_
                        rotate_left
                        ·go_simp
                         rfl
                        refine hK.out _ _ ⟨((cf gb636 NB623_636.out).trans (((cf gb636 NB623_636.out).trans (hHeld.1)))), ((cf gb636 NB623_636.out).trans (((cf gb636 NB623_636.out).trans (hHeld.2.1)))), ((cf gb636 NB623_636.out).trans (((cf gb636 NB623_636.out).trans (hHeld.2.2.1)))), ((cf gb636 NB623_636.out).trans (((cf gb636 NB623_636.out).trans (hHeld.2.2.2.1)))), ((cf gb636 (fl hw634_0 GW636)).trans (((cf gb636 (fl hw634_0 GW636)).trans (hHeld.2.2.2.2.1)))), ((cf gb636 (fl hw634_1 GW636)).trans (((cf gb636 (fl hw634_1 GW636)).trans (hHeld.2.2.2.2.2.1)))), ((cf gb636 (fl hw635_0 GW636)).trans (((cf gb636 (fl hw635_0 GW636)).trans (hHeld.2.2.2.2.2.2.1)))), ((cf gb636 (fl hw635_1 GW636)).trans (((cf gb636 (fl hw635_1 GW636)).trans (hHeld.2.2.2.2.2.2.2))))⟩ (fun hHeld => ?_)
                        clear hK K
                        refine one_ (i := 14) (N := none) (bl 15 32767) rfl rfl (one_of HT_.out (by kernel_rfl)) (by decide) (fun K hK => ?_)
                        have hs88 := (blk_cell BK637.out 0).trans rfl
                        have hfs88 := blk_frozen BK637.out 0
                        have hns88_0 := NB623_637.out
                        have hns88_1 := NB636_637.out
                        have hms88_0 := NB637_623.out
                        have hms88_1 := NB637_636.out
                        have hs89 := (blk_cell BK637.out 1).trans rfl
                        have hfs89 := blk_frozen BK637.out 1
                        have hns89_0 := NB623_637.out
                        have hns89_1 := NB636_637.out
                        have hms89_0 := NB637_623.out
                        have hms89_1 := NB637_636.out
                        refine skip_ (w1 := ?_) (by rfl) rfl ?_ ?_
                        rotate_left
                        ·go_simp
                         rfl
                        refine hK.out _ _ ⟨((cf gb637 NB623_637.out).trans (((cf gb637 NB623_637.out).trans (hHeld.1)))), ((cf gb637 NB623_637.out).trans (((cf gb637 NB623_637.out).trans (hHeld.2.1)))), ((cf gb637 NB623_637.out).trans (((cf gb637 NB623_637.out).trans (hHeld.2.2.1)))), ((cf gb637 NB623_637.out).trans (((cf gb637 NB623_637.out).trans (hHeld.2.2.2.1)))), ((cf gb637 (fl hw634_0 GW637)).trans (((cf gb637 (fl hw634_0 GW637)).trans (hHeld.2.2.2.2.1)))), ((cf gb637 (fl hw634_1 GW637)).trans (((cf gb637 (fl hw634_1 GW637)).trans (hHeld.2.2.2.2.2.1)))), ((cf gb637 (fl hw635_0 GW637)).trans (((cf gb637 (fl hw635_0 GW637)).trans (hHeld.2.2.2.2.2.2.1)))), ((cf gb637 (fl hw635_1 GW637)).trans (((cf gb637 (fl hw635_1 GW637)).trans (hHeld.2.2.2.2.2.2.2))))⟩ (fun hHeld => ?_)
                        clear hK K
                        refine done_ (done_of HT_.out (by kernel_rfl)) ?_
                        try go_wp2
                        have n0_ : Aside0 (Kd.R k23 23 ((((w85.setCell ⟨gb636, 0, none⟩ (.int .i64 ((rd_T23 l0_2 x11_3).f0))).setCell ⟨gb636, 1, none⟩ (.int .i64 ((rd_T23 l0_2 x11_3).f1))).setCell ⟨gb637, 0, none⟩ (.int .i64 ((rd_T23 l0_2 (ji43)).f0))).setCell ⟨gb637, 1, none⟩ (.int .i64 ((rd_T23 l0_2 (ji43)).f1))) w.heap.size (fun k_ => k_ ≠ gb636 ∧ k_ ≠ gb637) (.slice Ao81 t628.length co81) t628) := ⟨by refine uR ?_; exact Kd.R_mono (Kd.R_far (p := ⟨gb637, 1, none⟩) (Kd.R_far (p := ⟨gb637, 0, none⟩) (Kd.R_far (p := ⟨gb636, 1, none⟩) (Kd.R_far (p := ⟨gb636, 0, none⟩) (Kd.R_mono (Kd.R_mono HO_7.out (fun k_ hk => (⟨hk, hk.1⟩ : _ ∧ k_ ≠ gb636))) (fun k_ hk => (⟨hk, hk.1.2⟩ : _ ∧ k_ ≠ gb637))) (fun _ hk => hk.1.2) (.int .i64 ((rd_T23 l0_2 x11_3).f0))) (fun _ hk => hk.1.2) (.int .i64 ((rd_T23 l0_2 x11_3).f1))) (fun _ hk => hk.2) (.int .i64 ((rd_T23 l0_2 (ji43)).f0))) (fun _ hk => hk.2) (.int .i64 ((rd_T23 l0_2 (ji43)).f1))) (fun _ hk => ⟨hk.1.1.1, hk.1.1.2⟩)⟩
                        have n1_ : Aside0 (((((w85.setCell ⟨gb636, 0, none⟩ (.int .i64 ((rd_T23 l0_2 x11_3).f0))).setCell ⟨gb636, 1, none⟩ (.int .i64 ((rd_T23 l0_2 x11_3).f1))).setCell ⟨gb637, 0, none⟩ (.int .i64 ((rd_T23 l0_2 (ji43)).f0))).setCell ⟨gb637, 1, none⟩ (.int .i64 ((rd_T23 l0_2 (ji43)).f1))).heap[gb623]? = some (.cells #[.int .i64 a0_0, .int .i64 a0_1, .slice (some ad634) l0_2.length c0_2, .slice A0_3 l0_3.length c0_3] 27 (0, 0))) := ⟨by refine uK ?_; refine blk_far ?_ NB623_637.out _; refine uK ?_; refine blk_far ?_ NB623_637.out _; refine uK ?_; refine blk_far ?_ NB623_636.out _; refine uK ?_; refine blk_far ?_ NB623_636.out _; refine uK ?_; exact BK623.out⟩
                        have n2_ : Aside0 (((((w85.setCell ⟨gb636, 0, none⟩ (.int .i64 ((rd_T23 l0_2 x11_3).f0))).setCell ⟨gb636, 1, none⟩ (.int .i64 ((rd_T23 l0_2 x11_3).f1))).setCell ⟨gb637, 0, none⟩ (.int .i64 ((rd_T23 l0_2 (ji43)).f0))).setCell ⟨gb637, 1, none⟩ (.int .i64 ((rd_T23 l0_2 (ji43)).f1))).heap[gb636]? = some (.cells #[.int .i64 ((rd_T23 l0_2 x11_3).f0), .int .i64 ((rd_T23 l0_2 x11_3).f1)] 23 (0, 0))) := ⟨by refine uK ?_; refine blk_far ?_ NB636_637.out _; refine uK ?_; refine blk_far ?_ NB636_637.out _; refine uK ?_; refine blk_put (cs := #[.int .i64 ((rd_T23 l0_2 x11_3).f0), .int .i64 0]) ?_ 1 _ rfl; refine uK ?_; refine blk_put (cs := #[.int .i64 0, .int .i64 0]) ?_ 0 _ rfl; refine uK ?_; exact BK636.out⟩
                        have n3_ : Aside0 (((((w85.setCell ⟨gb636, 0, none⟩ (.int .i64 ((rd_T23 l0_2 x11_3).f0))).setCell ⟨gb636, 1, none⟩ (.int .i64 ((rd_T23 l0_2 x11_3).f1))).setCell ⟨gb637, 0, none⟩ (.int .i64 ((rd_T23 l0_2 (ji43)).f0))).setCell ⟨gb637, 1, none⟩ (.int .i64 ((rd_T23 l0_2 (ji43)).f1))).heap[gb637]? = some (.cells #[.int .i64 ((rd_T23 l0_2 (ji43)).f0), .int .i64 ((rd_T23 l0_2 (ji43)).f1)] 23 (0, 0))) := ⟨by refine uK ?_; refine blk_put (cs := #[.int .i64 ((rd_T23 l0_2 (ji43)).f0), .int .i64 0]) ?_ 1 _ rfl; refine uK ?_; refine blk_put (cs := #[.int .i64 0, .int .i64 0]) ?_ 0 _ rfl; refine uK ?_; refine blk_far ?_ NB637_636.out _; refine uK ?_; refine blk_far ?_ NB637_636.out _; refine uK ?_; exact BK637.out⟩
                        have n4_ : Aside0 (Below w.heap.size w ((((w85.setCell ⟨gb636, 0, none⟩ (.int .i64 ((rd_T23 l0_2 x11_3).f0))).setCell ⟨gb636, 1, none⟩ (.int .i64 ((rd_T23 l0_2 x11_3).f1))).setCell ⟨gb637, 0, none⟩ (.int .i64 ((rd_T23 l0_2 (ji43)).f0))).setCell ⟨gb637, 1, none⟩ (.int .i64 ((rd_T23 l0_2 (ji43)).f1)))) := ⟨uB⟩
                        (try clear HO_7)
                        (try clear BK623)
                        (try clear BK636)
                        (try clear BK637)
                        (try clear HB)
                        generalize ((((w85.setCell ⟨gb636, 0, none⟩ (.int .i64 ((rd_T23 l0_2 x11_3).f0))).setCell ⟨gb636, 1, none⟩ (.int .i64 ((rd_T23 l0_2 x11_3).f1))).setCell ⟨gb637, 0, none⟩ (.int .i64 ((rd_T23 l0_2 (ji43)).f0))).setCell ⟨gb637, 1, none⟩ (.int .i64 ((rd_T23 l0_2 (ji43)).f1))) = w90 at n0_ n1_ n2_ n3_ n4_ ⊢
                        have HO_7 := n0_
                        have BK623 := n1_
                        have BK636 := n2_
                        have BK637 := n3_
                        have HB := n4_
                        clear n0_ n1_ n2_ n3_ n4_
                        replace HO_7 := Aside0.mk (Kd.R_drew HO_7.out)
                        replace BK623 := Aside0.mk (blk_drew BK623.out)
                        replace BK636 := Aside0.mk (blk_drew BK636.out)
                        replace BK637 := Aside0.mk (blk_drew BK637.out)
                        replace HB := Aside0.mk (below_drew1 HB.out)
                        have p638 : 0 ≤ (x11_3 : Int) := of_decide_eq_true (by first | (with_reducible assumption) | assumption)
                        have q638 : x11_3 < (l2.length : Int) := of_decide_eq_true (by first | (with_reducible assumption) | assumption)
                        obtain ⟨ad638, e638, hx638_0⟩ := Kd.at_int HR2.out x11_3 p638 q638
                        have hw638_0 := hx638_0
                        cases e638
                        replace hx638_0 := hcell HB.out hx638_0
                        replace p638 := eq_true p638
                        replace q638 := eq_true q638
                        have p639 : 0 ≤ ((ji43) : Int) := of_decide_eq_true (by first | (with_reducible assumption) | assumption)
                        have q639 : (ji43) < (l2.length : Int) := of_decide_eq_true (by first | (with_reducible assumption) | assumption)
                        obtain ⟨ad639, e639, hx639_0⟩ := Kd.at_int HR2.out (ji43) p639 q639
                        have hw639_0 := hx639_0
                        obtain rfl : ad638 = ad639 := (by injection e639)
                        replace hx639_0 := hcell HB.out hx639_0
                        replace p639 := eq_true p639
                        replace q639 := eq_true q639
                        refine start_ (n := 12) (S := fun w' => w'.cell? (ad638.add (x11_3).toNat) = some (.int .i64 (rd l2 x11_3)) ∧ w'.cell? (ad638.add ((ji43)).toNat) = some (.int .i64 (rd l2 (ji43)))) (ds := []) (bl 12 0) (by kernel_rfl) rfl rfl ⟨(hcell HB.out hw638_0), (hcell HB.out hw639_0)⟩ (fun hHeld => ?_); refine with_tabW quinarialaw02_ChannelHeights.tab11 quinarialaw02_ChannelHeights.bits11 (fun HT_ HW_ => ?_)
                        generalize w90.drew = w91 at HO_7 BK623 BK636 BK637 HB hx638_0 hx639_0 hHeld ⊢
                        refine pu 0 76 12 1 ?_
                        refine pu 1 77 12 3 ?_
                        refine pu 2 78 12 7 ?_
                        refine pu 3 79 12 15 ?_
                        refine pu 5 81 12 47 ?_
                        refine pu 6 82 12 111 ?_
                        refine pu 7 83 12 239 ?_
                        refine pu 8 84 12 495 ?_
                        refine tk2 4 80 12 511 hHeld ?_
                        refine tk2 9 85 12 1023 hHeld ?_
                        refine one_ (i := 10) (N := some 86) (bl 12 2047) rfl rfl (one_of HT_.out (by kernel_rfl)) (by decide) (fun K hK => ?_)
                        refine goes_ Tryz.func22 (by kernel_rfl) rfl #[.int .i64 a1, .int .i64 (rd l2 x11_3), .int .i64 (rd l2 (ji43))] (by rfl) rfl rfl (by (try simp only [List.map_toArray, List.map_cons, List.map_nil]); first | done | (simp only [hji43]; rfl) | rfl | (simp only [List.length_drop, List.length_take]; rfl)) ?_
                        with_reducible refine (quinariaref02_Pressure.calls a1 (rd l2 x11_3) (rd l2 (ji43)) t640 _ A48.out).mono ?_
                        rintro e w92 ⟨rfl, hb⟩
                        refine ⟨_, rfl, ?_⟩
                        replace HO_7 := Aside0.mk (Kd.R_below (uR HO_7.out) hb)
                        replace BK623 := Aside0.mk (blk_below (uK BK623.out) hb)
                        replace BK636 := Aside0.mk (blk_below (uK BK636.out) hb)
                        replace BK637 := Aside0.mk (blk_below (uK BK637.out) hb)
                        replace HB := Aside0.mk (below_step uB hb)
                        (try clear hb)
                        (try clear hb2)
                        (try clear hk)
                        (try clear hi)
                        refine hK.out _ _ ⟨(hcell HB.out hw638_0), (hcell HB.out hw639_0)⟩ (fun hHeld => ?_)
                        clear hK K
                        refine nm ?_
                        refine pu 11 14 12 4095 ?_
                        refine done_ (done_of HT_.out (by kernel_rfl)) ?_
                        try go_wp2
                        replace HO_7 := Aside0.mk (Kd.R_drew HO_7.out)
                        replace BK623 := Aside0.mk (blk_drew BK623.out)
                        replace BK636 := Aside0.mk (blk_drew BK636.out)
                        replace BK637 := Aside0.mk (blk_drew BK637.out)
                        replace HB := Aside0.mk (below_drew1 HB.out)
                        have p641 : 0 ≤ (x11_3 : Int) := of_decide_eq_true (by first | (with_reducible assumption) | assumption)
                        have q641 : x11_3 < (t628.length : Int) := of_decide_eq_true (by first | (with_reducible assumption) | assumption)
                        obtain ⟨ad641, e641, hx641_0, hx641_1⟩ := at_T23 (Kd.R_reads' HO_7.out).2.2 x11_3 p641 q641
                        cases e641
                        replace p641 := eq_true p641
                        replace q641 := eq_true q641
                        have p642 : 0 ≤ (x11_3 : Int) := of_decide_eq_true (by first | (with_reducible assumption) | assumption)
                        have q642 : x11_3 < (t628.length : Int) := of_decide_eq_true (by first | (with_reducible assumption) | assumption)
                        obtain ⟨ad642, e642, hx642_0, hx642_1⟩ := at_T23 (Kd.R_reads' HO_7.out).2.2 x11_3 p642 q642
                        obtain rfl : ad641 = ad642 := (by injection e642)
                        replace p642 := eq_true p642
                        replace q642 := eq_true q642
                        have p643 : 0 ≤ (x11_3 : Int) := of_decide_eq_true (by first | (with_reducible assumption) | assumption)
                        have q643 : x11_3 < (t628.length : Int) := of_decide_eq_true (by first | (with_reducible assumption) | assumption)
                        obtain ⟨ad643, e643, hx643_0, hx643_1⟩ := at_T23 (Kd.R_reads' HO_7.out).2.2 x11_3 p643 q643
                        obtain rfl : ad641 = ad643 := (by injection e643)
                        replace p643 := eq_true p643
                        replace q643 := eq_true q643
                        have p645 : 0 ≤ (x11_3 : Int) := of_decide_eq_true (by first | (with_reducible assumption) | assumption)
                        have q645 : x11_3 < (t628.length : Int) := of_decide_eq_true (by first | (with_reducible assumption) | assumption)
                        obtain ⟨ad645, e645, hx645_0, hx645_1⟩ := at_T23 (Kd.R_reads' HO_7.out).2.2 x11_3 p645 q645
                        obtain rfl : ad641 = ad645 := (by injection e645)
                        replace p645 := eq_true p645
                        replace q645 := eq_true q645
                        refine start_ (n := 48) (S := fun w' => w'.cell? ⟨gb623, 0, none⟩ = some (.int .i64 a0_0) ∧ w'.cell? ⟨gb623, 1, none⟩ = some (.int .i64 a0_1) ∧ w'.cell? ⟨gb623, 2, none⟩ = some (.slice (some ad634) l0_2.length c0_2) ∧ w'.cell? ⟨gb623, 3, none⟩ = some (.slice A0_3 l0_3.length c0_3) ∧ w'.cell? ⟨gb636, 0, none⟩ = some (.int .i64 ((rd_T23 l0_2 x11_3).f0)) ∧ w'.cell? ⟨gb636, 1, none⟩ = some (.int .i64 ((rd_T23 l0_2 x11_3).f1)) ∧ w'.cell? ⟨gb637, 0, none⟩ = some (.int .i64 ((rd_T23 l0_2 (ji43)).f0)) ∧ w'.cell? ⟨gb637, 1, none⟩ = some (.int .i64 ((rd_T23 l0_2 (ji43)).f1)) ∧ w'.cell? (ad641.add ((x11_3).toNat * 2)) = some (.int .i64 ((rd_T23 t628 x11_3).f0)) ∧ w'.cell? ⟨(ad641.add ((x11_3).toNat * 2)).block, (ad641.add ((x11_3).toNat * 2)).off + 1, none⟩ = some (.int .i64 ((rd_T23 t628 x11_3).f1)) ∧ w'.cell? (ad641.add ((x11_3).toNat * 2)) = some (.int .i64 ((rd_T23 t628 x11_3).f0)) ∧ w'.cell? ⟨(ad641.add ((x11_3).toNat * 2)).block, (ad641.add ((x11_3).toNat * 2)).off + 1, none⟩ = some (.int .i64 ((rd_T23 t628 x11_3).f1)) ∧ w'.cell? (ad641.add ((x11_3).toNat * 2)) = some (.int .i64 ((rd_T23 t628 x11_3).f0)) ∧ w'.cell? ⟨(ad641.add ((x11_3).toNat * 2)).block, (ad641.add ((x11_3).toNat * 2)).off + 1, none⟩ = some (.int .i64 ((rd_T23 t628 x11_3).f1)) ∧ w'.cell? (ad641.add ((x11_3).toNat * 2)) = some (.int .i64 ((rd_T23 t628 x11_3).f0)) ∧ w'.cell? ⟨(ad641.add ((x11_3).toNat * 2)).block, (ad641.add ((x11_3).toNat * 2)).off + 1, none⟩ = some (.int .i64 ((rd_T23 t628 x11_3).f1))) (ds := []) (bl 48 0) (by kernel_rfl) rfl rfl ⟨(blk_cell BK623.out 0).trans rfl, (blk_cell BK623.out 1).trans rfl, (blk_cell BK623.out 2).trans rfl, (blk_cell BK623.out 3).trans rfl, (blk_cell BK636.out 0).trans rfl, (blk_cell BK636.out 1).trans rfl, (blk_cell BK637.out 0).trans rfl, (blk_cell BK637.out 1).trans rfl, hx641_0, hx641_1, hx642_0, hx642_1, hx643_0, hx643_1, hx645_0, hx645_1⟩ (fun hHeld => ?_); refine with_tabW quinarialaw02_ChannelHeights.tab12 quinarialaw02_ChannelHeights.bits12 (fun HT_ HW_ => ?_)
                        generalize w92.drew = w93 at HO_7 BK623 BK636 BK637 HB hx641_0 hx641_1 hx642_0 hx642_1 hx643_0 hx643_1 hx645_0 hx645_1 hHeld ⊢
                        refine pu 0 87 48 1 ?_
                        refine pu 1 88 48 3 ?_
                        refine pu 2 89 48 7 ?_
                        refine pu 3 90 48 15 ?_
                        refine pu 4 91 48 31 ?_
                        refine tk16 5 92 48 63 hHeld ?_
                        refine pu 6 93 48 127 ?_
                        refine pu 7 94 48 255 ?_
                        refine pu 8 95 48 511 ?_
                        refine pu 9 96 48 1023 ?_
                        refine pu 10 97 48 2047 ?_
                        refine pu 11 98 48 4095 ?_
                        refine pu 12 99 48 8191 ?_
                        refine tk16 13 100 48 16383 hHeld ?_
                        refine pu 14 101 48 32767 ?_
                        refine pu 15 102 48 65535 ?_
                        refine pu 16 103 48 131071 ?_
                        refine pu 17 104 48 262143 ?_
                        refine pu 18 105 48 524287 ?_
                        refine pu 19 106 48 1048575 ?_
                        refine pu 20 107 48 2097151 ?_
                        refine pu 22 109 48 6291455 ?_
                        refine pu 23 110 48 14680063 ?_
                        refine pu 25 112 48 48234495 ?_
                        refine pu 27 114 48 182452223 ?_
                        refine tk16 21 108 48 184549375 hHeld ?_
                        refine tk16 24 111 48 201326591 hHeld ?_
                        refine tk16 26 113 48 268435455 hHeld ?_
                        refine tk16 28 115 48 536870911 hHeld ?_
                        refine one_ (i := 29) (N := some 116) (bl 48 1073741823) rfl rfl (one_of HT_.out (by kernel_rfl)) (by decide) (fun K hK => ?_)
                        refine goes_ Tryz.func22 (by kernel_rfl) rfl #[.int .i64 a0_1, .int .i64 ((rd_T23 l0_2 x11_3).f0), .int .i64 ((rd_T23 l0_2 (ji43)).f0)] (by rfl) rfl rfl (by (try simp only [List.map_toArray, List.map_cons, List.map_nil]); first | done | (simp only [hji43]; rfl) | rfl | (simp only [List.length_drop, List.length_take]; rfl)) ?_
                        with_reducible refine (quinariaref02_Pressure.calls a0_1 ((rd_T23 l0_2 x11_3).f0) ((rd_T23 l0_2 (ji43)).f0) t644 _ A77.out).mono ?_
                        rintro e w94 ⟨rfl, hb⟩
                        have HS8_ := (hb.cell (World.block_lt_of_cell? _ _ (hHeld.2.2.2.2.2.2.2.2.1))).trans (hHeld.2.2.2.2.2.2.2.2.1)
                        have HS9_ := (hb.cell (World.block_lt_of_cell? _ _ (hHeld.2.2.2.2.2.2.2.2.2.1))).trans (hHeld.2.2.2.2.2.2.2.2.2.1)
                        have HS10_ := (hb.cell (World.block_lt_of_cell? _ _ (hHeld.2.2.2.2.2.2.2.2.2.2.1))).trans (hHeld.2.2.2.2.2.2.2.2.2.2.1)
                        have HS11_ := (hb.cell (World.block_lt_of_cell? _ _ (hHeld.2.2.2.2.2.2.2.2.2.2.2.1))).trans (hHeld.2.2.2.2.2.2.2.2.2.2.2.1)
                        have HS12_ := (hb.cell (World.block_lt_of_cell? _ _ (hHeld.2.2.2.2.2.2.2.2.2.2.2.2.1))).trans (hHeld.2.2.2.2.2.2.2.2.2.2.2.2.1)
                        have HS13_ := (hb.cell (World.block_lt_of_cell? _ _ (hHeld.2.2.2.2.2.2.2.2.2.2.2.2.2.1))).trans (hHeld.2.2.2.2.2.2.2.2.2.2.2.2.2.1)
                        have HS14_ := (hb.cell (World.block_lt_of_cell? _ _ (hHeld.2.2.2.2.2.2.2.2.2.2.2.2.2.2.1))).trans (hHeld.2.2.2.2.2.2.2.2.2.2.2.2.2.2.1)
                        have HS15_ := (hb.cell (World.block_lt_of_cell? _ _ (hHeld.2.2.2.2.2.2.2.2.2.2.2.2.2.2.2))).trans (hHeld.2.2.2.2.2.2.2.2.2.2.2.2.2.2.2)
                        refine ⟨_, rfl, ?_⟩
                        replace HO_7 := Aside0.mk (Kd.R_below (uR HO_7.out) hb)
                        replace BK623 := Aside0.mk (blk_below (uK BK623.out) hb)
                        replace BK636 := Aside0.mk (blk_below (uK BK636.out) hb)
                        replace BK637 := Aside0.mk (blk_below (uK BK637.out) hb)
                        replace HB := Aside0.mk (below_step uB hb)
                        (try clear hb)
                        (try clear hb2)
                        (try clear hk)
                        (try clear hi)
                        refine hK.out _ _ ⟨(blk_cell BK623.out 0).trans rfl, (blk_cell BK623.out 1).trans rfl, (blk_cell BK623.out 2).trans rfl, (blk_cell BK623.out 3).trans rfl, (blk_cell BK636.out 0).trans rfl, (blk_cell BK636.out 1).trans rfl, (blk_cell BK637.out 0).trans rfl, (blk_cell BK637.out 1).trans rfl, HS8_, HS9_, HS10_, HS11_, HS12_, HS13_, HS14_, HS15_⟩ (fun hHeld => ?_)
                        clear hK K
                        refine nm ?_
                        refine pu 30 117 48 2147483647 ?_
                        refine pu 31 118 48 4294967295 ?_
                        refine pu 32 119 48 8589934591 ?_
                        refine pu 33 120 48 17179869183 ?_
                        refine pu 34 121 48 34359738367 ?_
                        refine pu 35 122 48 68719476735 ?_
                        refine pu 36 123 48 137438953471 ?_
                        refine pu 38 125 48 412316860415 ?_
                        refine pu 39 126 48 962072674303 ?_
                        refine pu 41 128 48 3161095929855 ?_
                        refine pu 43 130 48 11957188952063 ?_
                        refine tk16 37 124 48 12094627905535 hHeld ?_
                        refine tk16 40 127 48 13194139533311 hHeld ?_
                        refine tk16 42 129 48 17592186044415 hHeld ?_
                        refine tk16 44 131 48 35184372088831 hHeld ?_
                        refine one_ (i := 45) (N := some 132) (bl 48 70368744177663) rfl rfl (one_of HT_.out (by kernel_rfl)) (by decide) (fun K hK => ?_)
                        refine goes_ Tryz.func22 (by kernel_rfl) rfl #[.int .i64 a0_0, .int .i64 ((rd_T23 l0_2 x11_3).f1), .int .i64 ((rd_T23 l0_2 (ji43)).f1)] (by rfl) rfl rfl (by (try simp only [List.map_toArray, List.map_cons, List.map_nil]); first | done | (simp only [hji43]; rfl) | rfl | (simp only [List.length_drop, List.length_take]; rfl)) ?_
                        with_reducible refine (quinariaref02_Pressure.calls a0_0 ((rd_T23 l0_2 x11_3).f1) ((rd_T23 l0_2 (ji43)).f1) t646 _ A79.out).mono ?_
                        rintro e w95 ⟨rfl, hb⟩
                        have HS8_ := (hb.cell (World.block_lt_of_cell? _ _ (hHeld.2.2.2.2.2.2.2.2.1))).trans (hHeld.2.2.2.2.2.2.2.2.1)
                        have HS9_ := (hb.cell (World.block_lt_of_cell? _ _ (hHeld.2.2.2.2.2.2.2.2.2.1))).trans (hHeld.2.2.2.2.2.2.2.2.2.1)
                        have HS10_ := (hb.cell (World.block_lt_of_cell? _ _ (hHeld.2.2.2.2.2.2.2.2.2.2.1))).trans (hHeld.2.2.2.2.2.2.2.2.2.2.1)
                        have HS11_ := (hb.cell (World.block_lt_of_cell? _ _ (hHeld.2.2.2.2.2.2.2.2.2.2.2.1))).trans (hHeld.2.2.2.2.2.2.2.2.2.2.2.1)
                        have HS12_ := (hb.cell (World.block_lt_of_cell? _ _ (hHeld.2.2.2.2.2.2.2.2.2.2.2.2.1))).trans (hHeld.2.2.2.2.2.2.2.2.2.2.2.2.1)
                        have HS13_ := (hb.cell (World.block_lt_of_cell? _ _ (hHeld.2.2.2.2.2.2.2.2.2.2.2.2.2.1))).trans (hHeld.2.2.2.2.2.2.2.2.2.2.2.2.2.1)
                        have HS14_ := (hb.cell (World.block_lt_of_cell? _ _ (hHeld.2.2.2.2.2.2.2.2.2.2.2.2.2.2.1))).trans (hHeld.2.2.2.2.2.2.2.2.2.2.2.2.2.2.1)
                        have HS15_ := (hb.cell (World.block_lt_of_cell? _ _ (hHeld.2.2.2.2.2.2.2.2.2.2.2.2.2.2.2))).trans (hHeld.2.2.2.2.2.2.2.2.2.2.2.2.2.2.2)
                        refine ⟨_, rfl, ?_⟩
                        replace HO_7 := Aside0.mk (Kd.R_below (uR HO_7.out) hb)
                        replace BK623 := Aside0.mk (blk_below (uK BK623.out) hb)
                        replace BK636 := Aside0.mk (blk_below (uK BK636.out) hb)
                        replace BK637 := Aside0.mk (blk_below (uK BK637.out) hb)
                        replace HB := Aside0.mk (below_step uB hb)
                        (try clear hb)
                        (try clear hb2)
                        (try clear hk)
                        (try clear hi)
                        refine hK.out _ _ ⟨(blk_cell BK623.out 0).trans rfl, (blk_cell BK623.out 1).trans rfl, (blk_cell BK623.out 2).trans rfl, (blk_cell BK623.out 3).trans rfl, (blk_cell BK636.out 0).trans rfl, (blk_cell BK636.out 1).trans rfl, (blk_cell BK637.out 0).trans rfl, (blk_cell BK637.out 1).trans rfl, HS8_, HS9_, HS10_, HS11_, HS12_, HS13_, HS14_, HS15_⟩ (fun hHeld => ?_)
                        clear hK K
                        refine nm ?_
                        refine pu 46 133 48 140737488355327 ?_
                        refine pu 47 134 48 281474976710655 ?_
                        refine done_ (done_of HT_.out (by kernel_rfl)) ?_
                        try go_wp2
                        go_roundg k3
                        case measure => have := HJ3.out; have := HJ27.out; have := HK3.out; omega
                        case rel => exact ⟨(ji43), (by first | rfl | (simp; done) | (simp only [← hji43] <;> (first | rfl | simp)) | (simp [*]; done)), H', ⟨by have := HJ3.out; have := HJ27.out; have := HK3.out; omega⟩, ⟨by refine uR ?_; exact Kd.R_mono HO_7.out (fun _ hk => trivial)⟩, ⟨uK BK623.out⟩, ⟨uB⟩⟩
                      ·as_aux_lemma =>
                        rw [if_neg c80] at H
                        have c80b0 : (((rd_T23 t628 x11_3).f0) == t646) = false := beq_eq_false_iff_ne.mpr c80
                        have c80b1 : (((rd_T23 t628 x11_3).f0) != t646) = true := bne_iff_ne.mpr c80
                        obtain rfl := Option.some.inj H
                        obtain ⟨Ao96, co96, eo96⟩ := Kd.R_slice HO_7.out
                        subst eo96
                        try go_wp2
                        replace HO_7 := Aside0.mk (Kd.R_drew HO_7.out)
                        replace BK623 := Aside0.mk (blk_drew BK623.out)
                        replace HB := Aside0.mk (below_drew1 HB.out)
                        have p634 : 0 ≤ (x11_3 : Int) := of_decide_eq_true (by first | (with_reducible assumption) | assumption)
                        have q634 : x11_3 < (l0_2.length : Int) := of_decide_eq_true (by first | (with_reducible assumption) | assumption)
                        obtain ⟨ad634, e634, hx634_0, hx634_1⟩ := at_T23 HR0_2.out x11_3 p634 q634
                        have hw634_1 := hx634_1
                        have hw634_0 := hx634_0
                        cases e634
                        replace hx634_0 := hcell HB.out hx634_0
                        replace hx634_1 := hcell HB.out hx634_1
                        replace p634 := eq_true p634
                        replace q634 := eq_true q634
                        have p635 : 0 ≤ ((ji43) : Int) := of_decide_eq_true (by first | (with_reducible assumption) | assumption)
                        have q635 : (ji43) < (l0_2.length : Int) := of_decide_eq_true (by first | (with_reducible assumption) | assumption)
                        obtain ⟨ad635, e635, hx635_0, hx635_1⟩ := at_T23 HR0_2.out (ji43) p635 q635
                        have hw635_1 := hx635_1
                        have hw635_0 := hx635_0
                        obtain rfl : ad634 = ad635 := (by injection e635)
                        replace hx635_0 := hcell HB.out hx635_0
                        replace hx635_1 := hcell HB.out hx635_1
                        replace p635 := eq_true p635
                        replace q635 := eq_true q635
                        refine start_ (n := 15) (S := fun w' => w'.cell? ⟨gb623, 0, none⟩ = some (.int .i64 a0_0) ∧ w'.cell? ⟨gb623, 1, none⟩ = some (.int .i64 a0_1) ∧ w'.cell? ⟨gb623, 2, none⟩ = some (.slice (some ad634) l0_2.length c0_2) ∧ w'.cell? ⟨gb623, 3, none⟩ = some (.slice A0_3 l0_3.length c0_3) ∧ w'.cell? (ad634.add ((x11_3).toNat * 2)) = some (.int .i64 ((rd_T23 l0_2 x11_3).f0)) ∧ w'.cell? ⟨(ad634.add ((x11_3).toNat * 2)).block, (ad634.add ((x11_3).toNat * 2)).off + 1, none⟩ = some (.int .i64 ((rd_T23 l0_2 x11_3).f1)) ∧ w'.cell? (ad634.add (((ji43)).toNat * 2)) = some (.int .i64 ((rd_T23 l0_2 (ji43)).f0)) ∧ w'.cell? ⟨(ad634.add (((ji43)).toNat * 2)).block, (ad634.add (((ji43)).toNat * 2)).off + 1, none⟩ = some (.int .i64 ((rd_T23 l0_2 (ji43)).f1))) (ds := []) (bl 15 0) (by kernel_rfl) rfl rfl ⟨(blk_cell BK623.out 0).trans rfl, (blk_cell BK623.out 1).trans rfl, (blk_cell BK623.out 2).trans rfl, (blk_cell BK623.out 3).trans rfl, (hcell HB.out hw634_0), (hcell HB.out hw634_1), (hcell HB.out hw635_0), (hcell HB.out hw635_1)⟩ (fun hHeld => ?_); refine with_tabW quinarialaw02_ChannelHeights.tab10 quinarialaw02_ChannelHeights.bits10 (fun HT_ HW_ => ?_)
                        generalize wr.drew = w97 at HO_7 BK623 HB hx634_0 hx634_1 hx635_0 hx635_1 hHeld ⊢
                        refine pu 0 65 15 1 ?_
                        refine pu 2 67 15 5 ?_
                        refine pu 5 70 15 37 ?_
                        refine pu 7 72 15 165 ?_
                        refine pu 8 73 15 421 ?_
                        refine tk8 1 66 15 423 hHeld ?_
                        refine pu 3 68 15 431 ?_
                        refine tk8 4 69 15 447 hHeld ?_
                        refine tk8 6 71 15 511 hHeld ?_
                        refine pu 9 74 15 1023 ?_
                        refine tk8 10 75 15 2047 hHeld ?_
                        refine join_ (σ := Nat × Nat) 2 (bl 15 8191) (fun s_ => [(12, .pointer (some ⟨s_.1, 0, none⟩)), (13, .pointer (some ⟨s_.2, 0, none⟩))]) (fun s_ w' => (w'.cell? ⟨gb623, 0, none⟩ = some (.int .i64 a0_0) ∧ w'.cell? ⟨gb623, 1, none⟩ = some (.int .i64 a0_1) ∧ w'.cell? ⟨gb623, 2, none⟩ = some (.slice (some ad634) l0_2.length c0_2) ∧ w'.cell? ⟨gb623, 3, none⟩ = some (.slice A0_3 l0_3.length c0_3) ∧ w'.cell? (ad634.add ((x11_3).toNat * 2)) = some (.int .i64 ((rd_T23 l0_2 x11_3).f0)) ∧ w'.cell? ⟨(ad634.add ((x11_3).toNat * 2)).block, (ad634.add ((x11_3).toNat * 2)).off + 1, none⟩ = some (.int .i64 ((rd_T23 l0_2 x11_3).f1)) ∧ w'.cell? (ad634.add (((ji43)).toNat * 2)) = some (.int .i64 ((rd_T23 l0_2 (ji43)).f0)) ∧ w'.cell? ⟨(ad634.add (((ji43)).toNat * 2)).block, (ad634.add (((ji43)).toNat * 2)).off + 1, none⟩ = some (.int .i64 ((rd_T23 l0_2 (ji43)).f1))) ∧ (Kd.R k23 23 w' w.heap.size (fun k_ => k_ ≠ s_.1 ∧ k_ ≠ s_.2) (.slice Ao96 t628.length co96) t628) ∧ (w'.heap[gb623]? = some (.cells #[.int .i64 a0_0, .int .i64 a0_1, .slice (some ad634) l0_2.length c0_2, .slice A0_3 l0_3.length c0_3] 27 (0, 0))) ∧ (w'.heap[s_.1]? = some (.cells #[.int .i64 0, .int .i64 0] 23 (0, 0))) ∧ (w'.heap[s_.2]? = some (.cells #[.int .i64 0, .int .i64 0] 23 (0, 0))) ∧ (w.heap.size ≤ s_.1) ∧ (w.heap.size ≤ s_.1) ∧ (gb623 ≠ s_.1) ∧ (s_.1 ≠ gb623) ∧ (s_.2 ≠ s_.1) ∧ (s_.1 ≠ s_.2) ∧ (w.heap.size ≤ s_.2) ∧ (w.heap.size ≤ s_.2) ∧ (gb623 ≠ s_.2) ∧ (s_.2 ≠ gb623) ∧ (Below w.heap.size w w')) ?_ ?_
                        rotate_left
                        ·intro hCont
                         refine two_ (i := 11) (j := 12) (Ni := some 12) (Nj := some 13) (bl 15 4095) (bl 15 6143) rfl rfl rfl rfl (two_of HT_.out (by kernel_rfl)) (by decide) (by decide) (fun K hK => ?_) (fun K hK => ?_)
                         ·skip
                          refine bxs 12 #[.int .i64 0, .int .i64 0] 23 ?_
                          intro gb636 hg w98 hbox hb
                          have n0_ := rE HO_7 hg hb
                          have n1_ := Aside0.mk (blk_below (uK BK623.out) hb)
                          have n2_ := Aside0.mk (below_step uB hb)
                          have n3_ := Aside0.mk (hbox)
                          have n4_ := gw hg
                          have n5_ := gw hg
                          have n6_ := nb BK623 hg
                          have n7_ := nc BK623 hg
                          clear HO_7 BK623 HB
                          have HO_7 := n0_
                          have BK623 := n1_
                          have HB := n2_
                          have BK636 := n3_
                          have GW636 := n4_
                          have GE636 := n5_
                          have NB623_636 := n6_
                          have NB636_623 := n7_
                          clear n0_ n1_ n2_ n3_ n4_ n5_ n6_ n7_
                          clear hb hbox hg
                          refine hK.out _ _ ⟨(blk_cell BK623.out 0).trans rfl, (blk_cell BK623.out 1).trans rfl, (blk_cell BK623.out 2).trans rfl, (blk_cell BK623.out 3).trans rfl, (hcell HB.out hw634_0), (hcell HB.out hw634_1), (hcell HB.out hw635_0), (hcell HB.out hw635_1)⟩ (fun hHeld => ?_)
                          clear hK K
                          refine nm ?_
                          refine one_ (i := 12) (N := some 13) (bl 15 8191) rfl rfl (one_of HT_.out (by kernel_rfl)) (by decide) (fun K hK => ?_)
                          refine bxs 13 #[.int .i64 0, .int .i64 0] 23 ?_
                          intro gb637 hg w99 hbox hb
                          have n0_ := rE HO_7 hg hb
                          have n1_ := Aside0.mk (blk_below (uK BK623.out) hb)
                          have n2_ := Aside0.mk (blk_below (uK BK636.out) hb)
                          have n3_ := Aside0.mk (below_step uB hb)
                          have n4_ := Aside0.mk (hbox)
                          have n5_ := gw hg
                          have n6_ := gw hg
                          have n7_ := nb BK623 hg
                          have n8_ := nc BK623 hg
                          have n9_ := nb BK636 hg
                          have n10_ := nc BK636 hg
                          clear HO_7 BK623 BK636 HB
                          have HO_7 := n0_
                          have BK623 := n1_
                          have BK636 := n2_
                          have HB := n3_
                          have BK637 := n4_
                          have GW637 := n5_
                          have GE637 := n6_
                          have NB623_637 := n7_
                          have NB637_623 := n8_
                          have NB636_637 := n9_
                          have NB637_636 := n10_
                          clear n0_ n1_ n2_ n3_ n4_ n5_ n6_ n7_ n8_ n9_ n10_
                          clear hb hbox hg
                          refine hK.out _ _ ⟨(blk_cell BK623.out 0).trans rfl, (blk_cell BK623.out 1).trans rfl, (blk_cell BK623.out 2).trans rfl, (blk_cell BK623.out 3).trans rfl, (hcell HB.out hw634_0), (hcell HB.out hw634_1), (hcell HB.out hw635_0), (hcell HB.out hw635_1)⟩ (fun hHeld => ?_)
                          clear hK K
                          refine nm ?_
                          exact norm_ (by simp only [putAll, Act.put, List.setIfInBounds_toArray, List.set_cons_zero, List.set_cons_succ]) (hCont (gb636, gb637) _ ⟨hHeld, (by refine uR ?_; exact Kd.R_mono HO_7.out (fun _ hk => ⟨hk.1.2, hk.2⟩)), (uK BK623.out), (uK BK636.out), (uK BK637.out), GW636.out, GE636.out, NB623_636.out, NB636_623.out, NB637_636.out, NB636_637.out, GW637.out, GE637.out, NB623_637.out, NB637_623.out, uB⟩)
                         ·skip
                          refine bxs 13 #[.int .i64 0, .int .i64 0] 23 ?_
                          intro gb637 hg w98 hbox hb
                          have n0_ := rE HO_7 hg hb
                          have n1_ := Aside0.mk (blk_below (uK BK623.out) hb)
                          have n2_ := Aside0.mk (below_step uB hb)
                          have n3_ := Aside0.mk (hbox)
                          have n4_ := gw hg
                          have n5_ := gw hg
                          have n6_ := nb BK623 hg
                          have n7_ := nc BK623 hg
                          clear HO_7 BK623 HB
                          have HO_7 := n0_
                          have BK623 := n1_
                          have HB := n2_
                          have BK637 := n3_
                          have GW637 := n4_
                          have GE637 := n5_
                          have NB623_637 := n6_
                          have NB637_623 := n7_
                          clear n0_ n1_ n2_ n3_ n4_ n5_ n6_ n7_
                          clear hb hbox hg
                          refine hK.out _ _ ⟨(blk_cell BK623.out 0).trans rfl, (blk_cell BK623.out 1).trans rfl, (blk_cell BK623.out 2).trans rfl, (blk_cell BK623.out 3).trans rfl, (hcell HB.out hw634_0), (hcell HB.out hw634_1), (hcell HB.out hw635_0), (hcell HB.out hw635_1)⟩ (fun hHeld => ?_)
                          clear hK K
                          refine nm ?_
                          refine one_ (i := 11) (N := some 12) (bl 15 8191) rfl rfl (one_of HT_.out (by kernel_rfl)) (by decide) (fun K hK => ?_)
                          refine bxs 12 #[.int .i64 0, .int .i64 0] 23 ?_
                          intro gb636 hg w99 hbox hb
                          have n0_ := rE HO_7 hg hb
                          have n1_ := Aside0.mk (blk_below (uK BK623.out) hb)
                          have n2_ := Aside0.mk (blk_below (uK BK637.out) hb)
                          have n3_ := Aside0.mk (below_step uB hb)
                          have n4_ := Aside0.mk (hbox)
                          have n5_ := gw hg
                          have n6_ := gw hg
                          have n7_ := nb BK623 hg
                          have n8_ := nc BK623 hg
                          have n9_ := nb BK637 hg
                          have n10_ := nc BK637 hg
                          clear HO_7 BK623 BK637 HB
                          have HO_7 := n0_
                          have BK623 := n1_
                          have BK637 := n2_
                          have HB := n3_
                          have BK636 := n4_
                          have GW636 := n5_
                          have GE636 := n6_
                          have NB623_636 := n7_
                          have NB636_623 := n8_
                          have NB637_636 := n9_
                          have NB636_637 := n10_
                          clear n0_ n1_ n2_ n3_ n4_ n5_ n6_ n7_ n8_ n9_ n10_
                          clear hb hbox hg
                          refine hK.out _ _ ⟨(blk_cell BK623.out 0).trans rfl, (blk_cell BK623.out 1).trans rfl, (blk_cell BK623.out 2).trans rfl, (blk_cell BK623.out 3).trans rfl, (hcell HB.out hw634_0), (hcell HB.out hw634_1), (hcell HB.out hw635_0), (hcell HB.out hw635_1)⟩ (fun hHeld => ?_)
                          clear hK K
                          refine nm ?_
                          exact norm_ (by simp only [putAll, Act.put, List.setIfInBounds_toArray, List.set_cons_zero, List.set_cons_succ]) (hCont (gb636, gb637) _ ⟨hHeld, (by refine uR ?_; exact Kd.R_mono HO_7.out (fun _ hk => ⟨hk.2, hk.1.2⟩)), (uK BK623.out), (uK BK636.out), (uK BK637.out), GW636.out, GE636.out, NB623_636.out, NB636_623.out, NB637_636.out, NB636_637.out, GW637.out, GE637.out, NB623_637.out, NB637_623.out, uB⟩)
                        rintro ⟨gb636, gb637⟩ w100 ⟨hS_, h0_, h1_, h2_, h3_, h4_, h5_, h6_, h7_, h8_, h9_, h10_, h11_, h12_, h13_, h14_⟩
                        try dsimp only at h0_ h1_ h2_ h3_ h4_ h5_ h6_ h7_ h8_ h9_ h10_ h11_ h12_ h13_ h14_
                        have n0_ := Aside0.mk h0_
                        have n1_ := Aside0.mk h1_
                        have n2_ := Aside0.mk h2_
                        have n3_ := Aside0.mk h3_
                        have n4_ := Aside0.mk h4_
                        have n5_ := Aside0.mk h5_
                        have n6_ := Aside0.mk h6_
                        have n7_ := Aside0.mk h7_
                        have n8_ := Aside0.mk h8_
                        have n9_ := Aside0.mk h9_
                        have n10_ := Aside0.mk h10_
                        have n11_ := Aside0.mk h11_
                        have n12_ := Aside0.mk h12_
                        have n13_ := Aside0.mk h13_
                        have n14_ := Aside0.mk h14_
                        clear HO_7 BK623 HB
                        clear h0_ h1_ h2_ h3_ h4_ h5_ h6_ h7_ h8_ h9_ h10_ h11_ h12_ h13_ h14_
                        have HO_7 := n0_
                        have BK623 := n1_
                        have BK636 := n2_
                        have BK637 := n3_
                        have GW636 := n4_
                        have GE636 := n5_
                        have NB623_636 := n6_
                        have NB636_623 := n7_
                        have NB637_636 := n8_
                        have NB636_637 := n9_
                        have GW637 := n10_
                        have GE637 := n11_
                        have NB623_637 := n12_
                        have NB637_623 := n13_
                        have HB := n14_
                        clear n0_ n1_ n2_ n3_ n4_ n5_ n6_ n7_ n8_ n9_ n10_ n11_ n12_ n13_ n14_
                        have hHeld : w100.cell? ⟨gb623, 0, none⟩ = some (.int .i64 a0_0) ∧ w100.cell? ⟨gb623, 1, none⟩ = some (.int .i64 a0_1) ∧ w100.cell? ⟨gb623, 2, none⟩ = some (.slice (some ad634) l0_2.length c0_2) ∧ w100.cell? ⟨gb623, 3, none⟩ = some (.slice A0_3 l0_3.length c0_3) ∧ w100.cell? (ad634.add ((x11_3).toNat * 2)) = some (.int .i64 ((rd_T23 l0_2 x11_3).f0)) ∧ w100.cell? ⟨(ad634.add ((x11_3).toNat * 2)).block, (ad634.add ((x11_3).toNat * 2)).off + 1, none⟩ = some (.int .i64 ((rd_T23 l0_2 x11_3).f1)) ∧ w100.cell? (ad634.add (((ji43)).toNat * 2)) = some (.int .i64 ((rd_T23 l0_2 (ji43)).f0)) ∧ w100.cell? ⟨(ad634.add (((ji43)).toNat * 2)).block, (ad634.add (((ji43)).toNat * 2)).off + 1, none⟩ = some (.int .i64 ((rd_T23 l0_2 (ji43)).f1)) := hS_
                        refine nm ?_
                        refine one_ (i := 13) (N := none) (bl 15 16383) rfl rfl (one_of HT_.out (by kernel_rfl)) (by decide) (fun K hK => ?_)
                        have hs101 := (blk_cell BK636.out 0).trans rfl
                        have hfs101 := blk_frozen BK636.out 0
                        have hns101_0 := NB623_636.out
                        have hns101_2 := NB637_636.out
                        have hms101_0 := NB636_623.out
                        have hms101_2 := NB636_637.out
                        have hs102 := (blk_cell BK636.out 1).trans rfl
                        have hfs102 := blk_frozen BK636.out 1
                        have hns102_0 := NB623_636.out
                        have hns102_2 := NB637_636.out
                        have hms102_0 := NB636_623.out
                        have hms102_2 := NB636_637.out
                        refine skip_ (w1 := ?_) (by rfl) rfl ?_ ?_
                        rotate_left
                        ·go_simp
                         rfl
                        refine hK.out _ _ ⟨((cf gb636 NB623_636.out).trans (((cf gb636 NB623_636.out).trans (hHeld.1)))), ((cf gb636 NB623_636.out).trans (((cf gb636 NB623_636.out).trans (hHeld.2.1)))), ((cf gb636 NB623_636.out).trans (((cf gb636 NB623_636.out).trans (hHeld.2.2.1)))), ((cf gb636 NB623_636.out).trans (((cf gb636 NB623_636.out).trans (hHeld.2.2.2.1)))), ((cf gb636 (fl hw634_0 GW636)).trans (((cf gb636 (fl hw634_0 GW636)).trans (hHeld.2.2.2.2.1)))), ((cf gb636 (fl hw634_1 GW636)).trans (((cf gb636 (fl hw634_1 GW636)).trans (hHeld.2.2.2.2.2.1)))), ((cf gb636 (fl hw635_0 GW636)).trans (((cf gb636 (fl hw635_0 GW636)).trans (hHeld.2.2.2.2.2.2.1)))), ((cf gb636 (fl hw635_1 GW636)).trans (((cf gb636 (fl hw635_1 GW636)).trans (hHeld.2.2.2.2.2.2.2))))⟩ (fun hHeld => ?_)
                        clear hK K
                        refine one_ (i := 14) (N := none) (bl 15 32767) rfl rfl (one_of HT_.out (by kernel_rfl)) (by decide) (fun K hK => ?_)
                        have hs103 := (blk_cell BK637.out 0).trans rfl
                        have hfs103 := blk_frozen BK637.out 0
                        have hns103_0 := NB623_637.out
                        have hns103_1 := NB636_637.out
                        have hms103_0 := NB637_623.out
                        have hms103_1 := NB637_636.out
                        have hs104 := (blk_cell BK637.out 1).trans rfl
                        have hfs104 := blk_frozen BK637.out 1
                        have hns104_0 := NB623_637.out
                        have hns104_1 := NB636_637.out
                        have hms104_0 := NB637_623.out
                        have hms104_1 := NB637_636.out
                        refine skip_ (w1 := ?_) (by rfl) rfl ?_ ?_
                        rotate_left
                        ·go_simp
                         rfl
                        refine hK.out _ _ ⟨((cf gb637 NB623_637.out).trans (((cf gb637 NB623_637.out).trans (hHeld.1)))), ((cf gb637 NB623_637.out).trans (((cf gb637 NB623_637.out).trans (hHeld.2.1)))), ((cf gb637 NB623_637.out).trans (((cf gb637 NB623_637.out).trans (hHeld.2.2.1)))), ((cf gb637 NB623_637.out).trans (((cf gb637 NB623_637.out).trans (hHeld.2.2.2.1)))), ((cf gb637 (fl hw634_0 GW637)).trans (((cf gb637 (fl hw634_0 GW637)).trans (hHeld.2.2.2.2.1)))), ((cf gb637 (fl hw634_1 GW637)).trans (((cf gb637 (fl hw634_1 GW637)).trans (hHeld.2.2.2.2.2.1)))), ((cf gb637 (fl hw635_0 GW637)).trans (((cf gb637 (fl hw635_0 GW637)).trans (hHeld.2.2.2.2.2.2.1)))), ((cf gb637 (fl hw635_1 GW637)).trans (((cf gb637 (fl hw635_1 GW637)).trans (hHeld.2.2.2.2.2.2.2))))⟩ (fun hHeld => ?_)
                        clear hK K
                        refine done_ (done_of HT_.out (by kernel_rfl)) ?_
                        try go_wp2
                        have n0_ : Aside0 (Kd.R k23 23 ((((w100.setCell ⟨gb636, 0, none⟩ (.int .i64 ((rd_T23 l0_2 x11_3).f0))).setCell ⟨gb636, 1, none⟩ (.int .i64 ((rd_T23 l0_2 x11_3).f1))).setCell ⟨gb637, 0, none⟩ (.int .i64 ((rd_T23 l0_2 (ji43)).f0))).setCell ⟨gb637, 1, none⟩ (.int .i64 ((rd_T23 l0_2 (ji43)).f1))) w.heap.size (fun k_ => k_ ≠ gb636 ∧ k_ ≠ gb637) (.slice Ao96 t628.length co96) t628) := ⟨by refine uR ?_; exact Kd.R_mono (Kd.R_far (p := ⟨gb637, 1, none⟩) (Kd.R_far (p := ⟨gb637, 0, none⟩) (Kd.R_far (p := ⟨gb636, 1, none⟩) (Kd.R_far (p := ⟨gb636, 0, none⟩) (Kd.R_mono (Kd.R_mono HO_7.out (fun k_ hk => (⟨hk, hk.1⟩ : _ ∧ k_ ≠ gb636))) (fun k_ hk => (⟨hk, hk.1.2⟩ : _ ∧ k_ ≠ gb637))) (fun _ hk => hk.1.2) (.int .i64 ((rd_T23 l0_2 x11_3).f0))) (fun _ hk => hk.1.2) (.int .i64 ((rd_T23 l0_2 x11_3).f1))) (fun _ hk => hk.2) (.int .i64 ((rd_T23 l0_2 (ji43)).f0))) (fun _ hk => hk.2) (.int .i64 ((rd_T23 l0_2 (ji43)).f1))) (fun _ hk => ⟨hk.1.1.1, hk.1.1.2⟩)⟩
                        have n1_ : Aside0 (((((w100.setCell ⟨gb636, 0, none⟩ (.int .i64 ((rd_T23 l0_2 x11_3).f0))).setCell ⟨gb636, 1, none⟩ (.int .i64 ((rd_T23 l0_2 x11_3).f1))).setCell ⟨gb637, 0, none⟩ (.int .i64 ((rd_T23 l0_2 (ji43)).f0))).setCell ⟨gb637, 1, none⟩ (.int .i64 ((rd_T23 l0_2 (ji43)).f1))).heap[gb623]? = some (.cells #[.int .i64 a0_0, .int .i64 a0_1, .slice (some ad634) l0_2.length c0_2, .slice A0_3 l0_3.length c0_3] 27 (0, 0))) := ⟨by refine uK ?_; refine blk_far ?_ NB623_637.out _; refine uK ?_; refine blk_far ?_ NB623_637.out _; refine uK ?_; refine blk_far ?_ NB623_636.out _; refine uK ?_; refine blk_far ?_ NB623_636.out _; refine uK ?_; exact BK623.out⟩
                        have n2_ : Aside0 (((((w100.setCell ⟨gb636, 0, none⟩ (.int .i64 ((rd_T23 l0_2 x11_3).f0))).setCell ⟨gb636, 1, none⟩ (.int .i64 ((rd_T23 l0_2 x11_3).f1))).setCell ⟨gb637, 0, none⟩ (.int .i64 ((rd_T23 l0_2 (ji43)).f0))).setCell ⟨gb637, 1, none⟩ (.int .i64 ((rd_T23 l0_2 (ji43)).f1))).heap[gb636]? = some (.cells #[.int .i64 ((rd_T23 l0_2 x11_3).f0), .int .i64 ((rd_T23 l0_2 x11_3).f1)] 23 (0, 0))) := ⟨by refine uK ?_; refine blk_far ?_ NB636_637.out _; refine uK ?_; refine blk_far ?_ NB636_637.out _; refine uK ?_; refine blk_put (cs := #[.int .i64 ((rd_T23 l0_2 x11_3).f0), .int .i64 0]) ?_ 1 _ rfl; refine uK ?_; refine blk_put (cs := #[.int .i64 0, .int .i64 0]) ?_ 0 _ rfl; refine uK ?_; exact BK636.out⟩
                        have n3_ : Aside0 (((((w100.setCell ⟨gb636, 0, none⟩ (.int .i64 ((rd_T23 l0_2 x11_3).f0))).setCell ⟨gb636, 1, none⟩ (.int .i64 ((rd_T23 l0_2 x11_3).f1))).setCell ⟨gb637, 0, none⟩ (.int .i64 ((rd_T23 l0_2 (ji43)).f0))).setCell ⟨gb637, 1, none⟩ (.int .i64 ((rd_T23 l0_2 (ji43)).f1))).heap[gb637]? = some (.cells #[.int .i64 ((rd_T23 l0_2 (ji43)).f0), .int .i64 ((rd_T23 l0_2 (ji43)).f1)] 23 (0, 0))) := ⟨by refine uK ?_; refine blk_put (cs := #[.int .i64 ((rd_T23 l0_2 (ji43)).f0), .int .i64 0]) ?_ 1 _ rfl; refine uK ?_; refine blk_put (cs := #[.int .i64 0, .int .i64 0]) ?_ 0 _ rfl; refine uK ?_; refine blk_far ?_ NB637_636.out _; refine uK ?_; refine blk_far ?_ NB637_636.out _; refine uK ?_; exact BK637.out⟩
                        have n4_ : Aside0 (Below w.heap.size w ((((w100.setCell ⟨gb636, 0, none⟩ (.int .i64 ((rd_T23 l0_2 x11_3).f0))).setCell ⟨gb636, 1, none⟩ (.int .i64 ((rd_T23 l0_2 x11_3).f1))).setCell ⟨gb637, 0, none⟩ (.int .i64 ((rd_T23 l0_2 (ji43)).f0))).setCell ⟨gb637, 1, none⟩ (.int .i64 ((rd_T23 l0_2 (ji43)).f1)))) := ⟨uB⟩
                        (try clear HO_7)
                        (try clear BK623)
                        (try clear BK636)
                        (try clear BK637)
                        (try clear HB)
                        generalize ((((w100.setCell ⟨gb636, 0, none⟩ (.int .i64 ((rd_T23 l0_2 x11_3).f0))).setCell ⟨gb636, 1, none⟩ (.int .i64 ((rd_T23 l0_2 x11_3).f1))).setCell ⟨gb637, 0, none⟩ (.int .i64 ((rd_T23 l0_2 (ji43)).f0))).setCell ⟨gb637, 1, none⟩ (.int .i64 ((rd_T23 l0_2 (ji43)).f1))) = w105 at n0_ n1_ n2_ n3_ n4_ ⊢
                        have HO_7 := n0_
                        have BK623 := n1_
                        have BK636 := n2_
                        have BK637 := n3_
                        have HB := n4_
                        clear n0_ n1_ n2_ n3_ n4_
                        replace HO_7 := Aside0.mk (Kd.R_drew HO_7.out)
                        replace BK623 := Aside0.mk (blk_drew BK623.out)
                        replace BK636 := Aside0.mk (blk_drew BK636.out)
                        replace BK637 := Aside0.mk (blk_drew BK637.out)
                        replace HB := Aside0.mk (below_drew1 HB.out)
                        have p638 : 0 ≤ (x11_3 : Int) := of_decide_eq_true (by first | (with_reducible assumption) | assumption)
                        have q638 : x11_3 < (l2.length : Int) := of_decide_eq_true (by first | (with_reducible assumption) | assumption)
                        obtain ⟨ad638, e638, hx638_0⟩ := Kd.at_int HR2.out x11_3 p638 q638
                        have hw638_0 := hx638_0
                        cases e638
                        replace hx638_0 := hcell HB.out hx638_0
                        replace p638 := eq_true p638
                        replace q638 := eq_true q638
                        have p639 : 0 ≤ ((ji43) : Int) := of_decide_eq_true (by first | (with_reducible assumption) | assumption)
                        have q639 : (ji43) < (l2.length : Int) := of_decide_eq_true (by first | (with_reducible assumption) | assumption)
                        obtain ⟨ad639, e639, hx639_0⟩ := Kd.at_int HR2.out (ji43) p639 q639
                        have hw639_0 := hx639_0
                        obtain rfl : ad638 = ad639 := (by injection e639)
                        replace hx639_0 := hcell HB.out hx639_0
                        replace p639 := eq_true p639
                        replace q639 := eq_true q639
                        refine start_ (n := 12) (S := fun w' => w'.cell? (ad638.add (x11_3).toNat) = some (.int .i64 (rd l2 x11_3)) ∧ w'.cell? (ad638.add ((ji43)).toNat) = some (.int .i64 (rd l2 (ji43)))) (ds := []) (bl 12 0) (by kernel_rfl) rfl rfl ⟨(hcell HB.out hw638_0), (hcell HB.out hw639_0)⟩ (fun hHeld => ?_); refine with_tabW quinarialaw02_ChannelHeights.tab11 quinarialaw02_ChannelHeights.bits11 (fun HT_ HW_ => ?_)
                        generalize w105.drew = w106 at HO_7 BK623 BK636 BK637 HB hx638_0 hx639_0 hHeld ⊢
                        refine pu 0 76 12 1 ?_
                        refine pu 1 77 12 3 ?_
                        refine pu 2 78 12 7 ?_
                        refine pu 3 79 12 15 ?_
                        refine pu 5 81 12 47 ?_
                        refine pu 6 82 12 111 ?_
                        refine pu 7 83 12 239 ?_
                        refine pu 8 84 12 495 ?_
                        refine tk2 4 80 12 511 hHeld ?_
                        refine tk2 9 85 12 1023 hHeld ?_
                        refine one_ (i := 10) (N := some 86) (bl 12 2047) rfl rfl (one_of HT_.out (by kernel_rfl)) (by decide) (fun K hK => ?_)
                        refine goes_ Tryz.func22 (by kernel_rfl) rfl #[.int .i64 a1, .int .i64 (rd l2 x11_3), .int .i64 (rd l2 (ji43))] (by rfl) rfl rfl (by (try simp only [List.map_toArray, List.map_cons, List.map_nil]); first | done | (simp only [hji43]; rfl) | rfl | (simp only [List.length_drop, List.length_take]; rfl)) ?_
                        with_reducible refine (quinariaref02_Pressure.calls a1 (rd l2 x11_3) (rd l2 (ji43)) t640 _ A48.out).mono ?_
                        rintro e w107 ⟨rfl, hb⟩
                        refine ⟨_, rfl, ?_⟩
                        replace HO_7 := Aside0.mk (Kd.R_below (uR HO_7.out) hb)
                        replace BK623 := Aside0.mk (blk_below (uK BK623.out) hb)
                        replace BK636 := Aside0.mk (blk_below (uK BK636.out) hb)
                        replace BK637 := Aside0.mk (blk_below (uK BK637.out) hb)
                        replace HB := Aside0.mk (below_step uB hb)
                        (try clear hb)
                        (try clear hb2)
                        (try clear hk)
                        (try clear hi)
                        refine hK.out _ _ ⟨(hcell HB.out hw638_0), (hcell HB.out hw639_0)⟩ (fun hHeld => ?_)
                        clear hK K
                        refine nm ?_
                        refine pu 11 14 12 4095 ?_
                        refine done_ (done_of HT_.out (by kernel_rfl)) ?_
                        try go_wp2
                        replace HO_7 := Aside0.mk (Kd.R_drew HO_7.out)
                        replace BK623 := Aside0.mk (blk_drew BK623.out)
                        replace BK636 := Aside0.mk (blk_drew BK636.out)
                        replace BK637 := Aside0.mk (blk_drew BK637.out)
                        replace HB := Aside0.mk (below_drew1 HB.out)
                        have p641 : 0 ≤ (x11_3 : Int) := of_decide_eq_true (by first | (with_reducible assumption) | assumption)
                        have q641 : x11_3 < (t628.length : Int) := of_decide_eq_true (by first | (with_reducible assumption) | assumption)
                        obtain ⟨ad641, e641, hx641_0, hx641_1⟩ := at_T23 (Kd.R_reads' HO_7.out).2.2 x11_3 p641 q641
                        cases e641
                        replace p641 := eq_true p641
                        replace q641 := eq_true q641
                        have p642 : 0 ≤ (x11_3 : Int) := of_decide_eq_true (by first | (with_reducible assumption) | assumption)
                        have q642 : x11_3 < (t628.length : Int) := of_decide_eq_true (by first | (with_reducible assumption) | assumption)
                        obtain ⟨ad642, e642, hx642_0, hx642_1⟩ := at_T23 (Kd.R_reads' HO_7.out).2.2 x11_3 p642 q642
                        obtain rfl : ad641 = ad642 := (by injection e642)
                        replace p642 := eq_true p642
                        replace q642 := eq_true q642
                        have p643 : 0 ≤ (x11_3 : Int) := of_decide_eq_true (by first | (with_reducible assumption) | assumption)
                        have q643 : x11_3 < (t628.length : Int) := of_decide_eq_true (by first | (with_reducible assumption) | assumption)
                        obtain ⟨ad643, e643, hx643_0, hx643_1⟩ := at_T23 (Kd.R_reads' HO_7.out).2.2 x11_3 p643 q643
                        obtain rfl : ad641 = ad643 := (by injection e643)
                        replace p643 := eq_true p643
                        replace q643 := eq_true q643
                        have p645 : 0 ≤ (x11_3 : Int) := of_decide_eq_true (by first | (with_reducible assumption) | assumption)
                        have q645 : x11_3 < (t628.length : Int) := of_decide_eq_true (by first | (with_reducible assumption) | assumption)
                        obtain ⟨ad645, e645, hx645_0, hx645_1⟩ := at_T23 (Kd.R_reads' HO_7.out).2.2 x11_3 p645 q645
                        obtain rfl : ad641 = ad645 := (by injection e645)
                        replace p645 := eq_true p645
                        replace q645 := eq_true q645
                        refine start_ (n := 48) (S := fun w' => w'.cell? ⟨gb623, 0, none⟩ = some (.int .i64 a0_0) ∧ w'.cell? ⟨gb623, 1, none⟩ = some (.int .i64 a0_1) ∧ w'.cell? ⟨gb623, 2, none⟩ = some (.slice (some ad634) l0_2.length c0_2) ∧ w'.cell? ⟨gb623, 3, none⟩ = some (.slice A0_3 l0_3.length c0_3) ∧ w'.cell? ⟨gb636, 0, none⟩ = some (.int .i64 ((rd_T23 l0_2 x11_3).f0)) ∧ w'.cell? ⟨gb636, 1, none⟩ = some (.int .i64 ((rd_T23 l0_2 x11_3).f1)) ∧ w'.cell? ⟨gb637, 0, none⟩ = some (.int .i64 ((rd_T23 l0_2 (ji43)).f0)) ∧ w'.cell? ⟨gb637, 1, none⟩ = some (.int .i64 ((rd_T23 l0_2 (ji43)).f1)) ∧ w'.cell? (ad641.add ((x11_3).toNat * 2)) = some (.int .i64 ((rd_T23 t628 x11_3).f0)) ∧ w'.cell? ⟨(ad641.add ((x11_3).toNat * 2)).block, (ad641.add ((x11_3).toNat * 2)).off + 1, none⟩ = some (.int .i64 ((rd_T23 t628 x11_3).f1)) ∧ w'.cell? (ad641.add ((x11_3).toNat * 2)) = some (.int .i64 ((rd_T23 t628 x11_3).f0)) ∧ w'.cell? ⟨(ad641.add ((x11_3).toNat * 2)).block, (ad641.add ((x11_3).toNat * 2)).off + 1, none⟩ = some (.int .i64 ((rd_T23 t628 x11_3).f1)) ∧ w'.cell? (ad641.add ((x11_3).toNat * 2)) = some (.int .i64 ((rd_T23 t628 x11_3).f0)) ∧ w'.cell? ⟨(ad641.add ((x11_3).toNat * 2)).block, (ad641.add ((x11_3).toNat * 2)).off + 1, none⟩ = some (.int .i64 ((rd_T23 t628 x11_3).f1)) ∧ w'.cell? (ad641.add ((x11_3).toNat * 2)) = some (.int .i64 ((rd_T23 t628 x11_3).f0)) ∧ w'.cell? ⟨(ad641.add ((x11_3).toNat * 2)).block, (ad641.add ((x11_3).toNat * 2)).off + 1, none⟩ = some (.int .i64 ((rd_T23 t628 x11_3).f1))) (ds := []) (bl 48 0) (by kernel_rfl) rfl rfl ⟨(blk_cell BK623.out 0).trans rfl, (blk_cell BK623.out 1).trans rfl, (blk_cell BK623.out 2).trans rfl, (blk_cell BK623.out 3).trans rfl, (blk_cell BK636.out 0).trans rfl, (blk_cell BK636.out 1).trans rfl, (blk_cell BK637.out 0).trans rfl, (blk_cell BK637.out 1).trans rfl, hx641_0, hx641_1, hx642_0, hx642_1, hx643_0, hx643_1, hx645_0, hx645_1⟩ (fun hHeld => ?_); refine with_tabW quinarialaw02_ChannelHeights.tab12 quinarialaw02_ChannelHeights.bits12 (fun HT_ HW_ => ?_)
                        generalize w107.drew = w108 at HO_7 BK623 BK636 BK637 HB hx641_0 hx641_1 hx642_0 hx642_1 hx643_0 hx643_1 hx645_0 hx645_1 hHeld ⊢
                        refine pu 0 87 48 1 ?_
                        refine pu 1 88 48 3 ?_
                        refine pu 2 89 48 7 ?_
                        refine pu 3 90 48 15 ?_
                        refine pu 4 91 48 31 ?_
                        refine tk16 5 92 48 63 hHeld ?_
                        refine pu 6 93 48 127 ?_
                        refine pu 7 94 48 255 ?_
                        refine pu 8 95 48 511 ?_
                        refine pu 9 96 48 1023 ?_
                        refine pu 10 97 48 2047 ?_
                        refine pu 11 98 48 4095 ?_
                        refine pu 12 99 48 8191 ?_
                        refine tk16 13 100 48 16383 hHeld ?_
                        refine pu 14 101 48 32767 ?_
                        refine pu 15 102 48 65535 ?_
                        refine pu 16 103 48 131071 ?_
                        refine pu 17 104 48 262143 ?_
                        refine pu 18 105 48 524287 ?_
                        refine pu 19 106 48 1048575 ?_
                        refine pu 20 107 48 2097151 ?_
                        refine pu 22 109 48 6291455 ?_
                        refine pu 23 110 48 14680063 ?_
                        refine pu 25 112 48 48234495 ?_
                        refine pu 27 114 48 182452223 ?_
                        refine tk16 21 108 48 184549375 hHeld ?_
                        refine tk16 24 111 48 201326591 hHeld ?_
                        refine tk16 26 113 48 268435455 hHeld ?_
                        refine tk16 28 115 48 536870911 hHeld ?_
                        refine one_ (i := 29) (N := some 116) (bl 48 1073741823) rfl rfl (one_of HT_.out (by kernel_rfl)) (by decide) (fun K hK => ?_)
                        refine goes_ Tryz.func22 (by kernel_rfl) rfl #[.int .i64 a0_1, .int .i64 ((rd_T23 l0_2 x11_3).f0), .int .i64 ((rd_T23 l0_2 (ji43)).f0)] (by rfl) rfl rfl (by (try simp only [List.map_toArray, List.map_cons, List.map_nil]); first | done | (simp only [hji43]; rfl) | rfl | (simp only [List.length_drop, List.length_take]; rfl)) ?_
                        with_reducible refine (quinariaref02_Pressure.calls a0_1 ((rd_T23 l0_2 x11_3).f0) ((rd_T23 l0_2 (ji43)).f0) t644 _ A77.out).mono ?_
                        rintro e w109 ⟨rfl, hb⟩
                        have HS8_ := (hb.cell (World.block_lt_of_cell? _ _ (hHeld.2.2.2.2.2.2.2.2.1))).trans (hHeld.2.2.2.2.2.2.2.2.1)
                        have HS9_ := (hb.cell (World.block_lt_of_cell? _ _ (hHeld.2.2.2.2.2.2.2.2.2.1))).trans (hHeld.2.2.2.2.2.2.2.2.2.1)
                        have HS10_ := (hb.cell (World.block_lt_of_cell? _ _ (hHeld.2.2.2.2.2.2.2.2.2.2.1))).trans (hHeld.2.2.2.2.2.2.2.2.2.2.1)
                        have HS11_ := (hb.cell (World.block_lt_of_cell? _ _ (hHeld.2.2.2.2.2.2.2.2.2.2.2.1))).trans (hHeld.2.2.2.2.2.2.2.2.2.2.2.1)
                        have HS12_ := (hb.cell (World.block_lt_of_cell? _ _ (hHeld.2.2.2.2.2.2.2.2.2.2.2.2.1))).trans (hHeld.2.2.2.2.2.2.2.2.2.2.2.2.1)
                        have HS13_ := (hb.cell (World.block_lt_of_cell? _ _ (hHeld.2.2.2.2.2.2.2.2.2.2.2.2.2.1))).trans (hHeld.2.2.2.2.2.2.2.2.2.2.2.2.2.1)
                        have HS14_ := (hb.cell (World.block_lt_of_cell? _ _ (hHeld.2.2.2.2.2.2.2.2.2.2.2.2.2.2.1))).trans (hHeld.2.2.2.2.2.2.2.2.2.2.2.2.2.2.1)
                        have HS15_ := (hb.cell (World.block_lt_of_cell? _ _ (hHeld.2.2.2.2.2.2.2.2.2.2.2.2.2.2.2))).trans (hHeld.2.2.2.2.2.2.2.2.2.2.2.2.2.2.2)
                        refine ⟨_, rfl, ?_⟩
                        replace HO_7 := Aside0.mk (Kd.R_below (uR HO_7.out) hb)
                        replace BK623 := Aside0.mk (blk_below (uK BK623.out) hb)
                        replace BK636 := Aside0.mk (blk_below (uK BK636.out) hb)
                        replace BK637 := Aside0.mk (blk_below (uK BK637.out) hb)
                        replace HB := Aside0.mk (below_step uB hb)
                        (try clear hb)
                        (try clear hb2)
                        (try clear hk)
                        (try clear hi)
                        refine hK.out _ _ ⟨(blk_cell BK623.out 0).trans rfl, (blk_cell BK623.out 1).trans rfl, (blk_cell BK623.out 2).trans rfl, (blk_cell BK623.out 3).trans rfl, (blk_cell BK636.out 0).trans rfl, (blk_cell BK636.out 1).trans rfl, (blk_cell BK637.out 0).trans rfl, (blk_cell BK637.out 1).trans rfl, HS8_, HS9_, HS10_, HS11_, HS12_, HS13_, HS14_, HS15_⟩ (fun hHeld => ?_)
                        clear hK K
                        refine nm ?_
                        refine pu 30 117 48 2147483647 ?_
                        refine pu 31 118 48 4294967295 ?_
                        refine pu 32 119 48 8589934591 ?_
                        refine pu 33 120 48 17179869183 ?_
                        refine pu 34 121 48 34359738367 ?_
                        refine pu 35 122 48 68719476735 ?_
                        refine pu 36 123 48 137438953471 ?_
                        refine pu 38 125 48 412316860415 ?_
                        refine pu 39 126 48 962072674303 ?_
                        refine pu 41 128 48 3161095929855 ?_
                        refine pu 43 130 48 11957188952063 ?_
                        refine tk16 37 124 48 12094627905535 hHeld ?_
                        refine tk16 40 127 48 13194139533311 hHeld ?_
                        refine tk16 42 129 48 17592186044415 hHeld ?_
                        refine tk16 44 131 48 35184372088831 hHeld ?_
                        refine one_ (i := 45) (N := some 132) (bl 48 70368744177663) rfl rfl (one_of HT_.out (by kernel_rfl)) (by decide) (fun K hK => ?_)
                        refine goes_ Tryz.func22 (by kernel_rfl) rfl #[.int .i64 a0_0, .int .i64 ((rd_T23 l0_2 x11_3).f1), .int .i64 ((rd_T23 l0_2 (ji43)).f1)] (by rfl) rfl rfl (by (try simp only [List.map_toArray, List.map_cons, List.map_nil]); first | done | (simp only [hji43]; rfl) | rfl | (simp only [List.length_drop, List.length_take]; rfl)) ?_
                        with_reducible refine (quinariaref02_Pressure.calls a0_0 ((rd_T23 l0_2 x11_3).f1) ((rd_T23 l0_2 (ji43)).f1) t646 _ A79.out).mono ?_
                        rintro e w110 ⟨rfl, hb⟩
                        have HS8_ := (hb.cell (World.block_lt_of_cell? _ _ (hHeld.2.2.2.2.2.2.2.2.1))).trans (hHeld.2.2.2.2.2.2.2.2.1)
                        have HS9_ := (hb.cell (World.block_lt_of_cell? _ _ (hHeld.2.2.2.2.2.2.2.2.2.1))).trans (hHeld.2.2.2.2.2.2.2.2.2.1)
                        have HS10_ := (hb.cell (World.block_lt_of_cell? _ _ (hHeld.2.2.2.2.2.2.2.2.2.2.1))).trans (hHeld.2.2.2.2.2.2.2.2.2.2.1)
                        have HS11_ := (hb.cell (World.block_lt_of_cell? _ _ (hHeld.2.2.2.2.2.2.2.2.2.2.2.1))).trans (hHeld.2.2.2.2.2.2.2.2.2.2.2.1)
                        have HS12_ := (hb.cell (World.block_lt_of_cell? _ _ (hHeld.2.2.2.2.2.2.2.2.2.2.2.2.1))).trans (hHeld.2.2.2.2.2.2.2.2.2.2.2.2.1)
                        have HS13_ := (hb.cell (World.block_lt_of_cell? _ _ (hHeld.2.2.2.2.2.2.2.2.2.2.2.2.2.1))).trans (hHeld.2.2.2.2.2.2.2.2.2.2.2.2.2.1)
                        have HS14_ := (hb.cell (World.block_lt_of_cell? _ _ (hHeld.2.2.2.2.2.2.2.2.2.2.2.2.2.2.1))).trans (hHeld.2.2.2.2.2.2.2.2.2.2.2.2.2.2.1)
                        have HS15_ := (hb.cell (World.block_lt_of_cell? _ _ (hHeld.2.2.2.2.2.2.2.2.2.2.2.2.2.2.2))).trans (hHeld.2.2.2.2.2.2.2.2.2.2.2.2.2.2.2)
                        refine ⟨_, rfl, ?_⟩
                        replace HO_7 := Aside0.mk (Kd.R_below (uR HO_7.out) hb)
                        replace BK623 := Aside0.mk (blk_below (uK BK623.out) hb)
                        replace BK636 := Aside0.mk (blk_below (uK BK636.out) hb)
                        replace BK637 := Aside0.mk (blk_below (uK BK637.out) hb)
                        replace HB := Aside0.mk (below_step uB hb)
                        (try clear hb)
                        (try clear hb2)
                        (try clear hk)
                        (try clear hi)
                        refine hK.out _ _ ⟨(blk_cell BK623.out 0).trans rfl, (blk_cell BK623.out 1).trans rfl, (blk_cell BK623.out 2).trans rfl, (blk_cell BK623.out 3).trans rfl, (blk_cell BK636.out 0).trans rfl, (blk_cell BK636.out 1).trans rfl, (blk_cell BK637.out 0).trans rfl, (blk_cell BK637.out 1).trans rfl, HS8_, HS9_, HS10_, HS11_, HS12_, HS13_, HS14_, HS15_⟩ (fun hHeld => ?_)
                        clear hK K
                        refine nm ?_
                        refine pu 46 133 48 140737488355327 ?_
                        refine pu 47 134 48 281474976710655 ?_
                        refine done_ (done_of HT_.out (by kernel_rfl)) ?_
                        try go_wp2
                        go_ret
                        exact ⟨by first | rfl | (simp [errW_none, errW_some] <;> rfl) | (simp only [← hji43]; first | rfl | (simp [errW_none, errW_some] <;> rfl)) | (simp [*, errW_none, errW_some] <;> rfl), uB⟩
                    ·as_aux_lemma =>
                      rw [if_neg c78] at H
                      have c78b0 : (((rd_T23 t628 x11_3).f1) == t644) = false := beq_eq_false_iff_ne.mpr c78
                      have c78b1 : (((rd_T23 t628 x11_3).f1) != t644) = true := bne_iff_ne.mpr c78
                      obtain rfl := Option.some.inj H
                      obtain ⟨Ao111, co111, eo111⟩ := Kd.R_slice HO_7.out
                      subst eo111
                      try go_wp2
                      replace HO_7 := Aside0.mk (Kd.R_drew HO_7.out)
                      replace BK623 := Aside0.mk (blk_drew BK623.out)
                      replace HB := Aside0.mk (below_drew1 HB.out)
                      have p634 : 0 ≤ (x11_3 : Int) := of_decide_eq_true (by first | (with_reducible assumption) | assumption)
                      have q634 : x11_3 < (l0_2.length : Int) := of_decide_eq_true (by first | (with_reducible assumption) | assumption)
                      obtain ⟨ad634, e634, hx634_0, hx634_1⟩ := at_T23 HR0_2.out x11_3 p634 q634
                      have hw634_1 := hx634_1
                      have hw634_0 := hx634_0
                      cases e634
                      replace hx634_0 := hcell HB.out hx634_0
                      replace hx634_1 := hcell HB.out hx634_1
                      replace p634 := eq_true p634
                      replace q634 := eq_true q634
                      have p635 : 0 ≤ ((ji43) : Int) := of_decide_eq_true (by first | (with_reducible assumption) | assumption)
                      have q635 : (ji43) < (l0_2.length : Int) := of_decide_eq_true (by first | (with_reducible assumption) | assumption)
                      obtain ⟨ad635, e635, hx635_0, hx635_1⟩ := at_T23 HR0_2.out (ji43) p635 q635
                      have hw635_1 := hx635_1
                      have hw635_0 := hx635_0
                      obtain rfl : ad634 = ad635 := (by injection e635)
                      replace hx635_0 := hcell HB.out hx635_0
                      replace hx635_1 := hcell HB.out hx635_1
                      replace p635 := eq_true p635
                      replace q635 := eq_true q635
                      refine start_ (n := 15) (S := fun w' => w'.cell? ⟨gb623, 0, none⟩ = some (.int .i64 a0_0) ∧ w'.cell? ⟨gb623, 1, none⟩ = some (.int .i64 a0_1) ∧ w'.cell? ⟨gb623, 2, none⟩ = some (.slice (some ad634) l0_2.length c0_2) ∧ w'.cell? ⟨gb623, 3, none⟩ = some (.slice A0_3 l0_3.length c0_3) ∧ w'.cell? (ad634.add ((x11_3).toNat * 2)) = some (.int .i64 ((rd_T23 l0_2 x11_3).f0)) ∧ w'.cell? ⟨(ad634.add ((x11_3).toNat * 2)).block, (ad634.add ((x11_3).toNat * 2)).off + 1, none⟩ = some (.int .i64 ((rd_T23 l0_2 x11_3).f1)) ∧ w'.cell? (ad634.add (((ji43)).toNat * 2)) = some (.int .i64 ((rd_T23 l0_2 (ji43)).f0)) ∧ w'.cell? ⟨(ad634.add (((ji43)).toNat * 2)).block, (ad634.add (((ji43)).toNat * 2)).off + 1, none⟩ = some (.int .i64 ((rd_T23 l0_2 (ji43)).f1))) (ds := []) (bl 15 0) (by kernel_rfl) rfl rfl ⟨(blk_cell BK623.out 0).trans rfl, (blk_cell BK623.out 1).trans rfl, (blk_cell BK623.out 2).trans rfl, (blk_cell BK623.out 3).trans rfl, (hcell HB.out hw634_0), (hcell HB.out hw634_1), (hcell HB.out hw635_0), (hcell HB.out hw635_1)⟩ (fun hHeld => ?_); refine with_tabW quinarialaw02_ChannelHeights.tab10 quinarialaw02_ChannelHeights.bits10 (fun HT_ HW_ => ?_)
                      generalize wr.drew = w112 at HO_7 BK623 HB hx634_0 hx634_1 hx635_0 hx635_1 hHeld ⊢
                      refine pu 0 65 15 1 ?_
                      refine pu 2 67 15 5 ?_
                      refine pu 5 70 15 37 ?_
                      refine pu 7 72 15 165 ?_
                      refine pu 8 73 15 421 ?_
                      refine tk8 1 66 15 423 hHeld ?_
                      refine pu 3 68 15 431 ?_
                      refine tk8 4 69 15 447 hHeld ?_
                      refine tk8 6 71 15 511 hHeld ?_
                      refine pu 9 74 15 1023 ?_
                      refine tk8 10 75 15 2047 hHeld ?_
                      refine join_ (σ := Nat × Nat) 2 (bl 15 8191) (fun s_ => [(12, .pointer (some ⟨s_.1, 0, none⟩)), (13, .pointer (some ⟨s_.2, 0, none⟩))]) (fun s_ w' => (w'.cell? ⟨gb623, 0, none⟩ = some (.int .i64 a0_0) ∧ w'.cell? ⟨gb623, 1, none⟩ = some (.int .i64 a0_1) ∧ w'.cell? ⟨gb623, 2, none⟩ = some (.slice (some ad634) l0_2.length c0_2) ∧ w'.cell? ⟨gb623, 3, none⟩ = some (.slice A0_3 l0_3.length c0_3) ∧ w'.cell? (ad634.add ((x11_3).toNat * 2)) = some (.int .i64 ((rd_T23 l0_2 x11_3).f0)) ∧ w'.cell? ⟨(ad634.add ((x11_3).toNat * 2)).block, (ad634.add ((x11_3).toNat * 2)).off + 1, none⟩ = some (.int .i64 ((rd_T23 l0_2 x11_3).f1)) ∧ w'.cell? (ad634.add (((ji43)).toNat * 2)) = some (.int .i64 ((rd_T23 l0_2 (ji43)).f0)) ∧ w'.cell? ⟨(ad634.add (((ji43)).toNat * 2)).block, (ad634.add (((ji43)).toNat * 2)).off + 1, none⟩ = some (.int .i64 ((rd_T23 l0_2 (ji43)).f1))) ∧ (Kd.R k23 23 w' w.heap.size (fun k_ => k_ ≠ s_.1 ∧ k_ ≠ s_.2) (.slice Ao111 t628.length co111) t628) ∧ (w'.heap[gb623]? = some (.cells #[.int .i64 a0_0, .int .i64 a0_1, .slice (some ad634) l0_2.length c0_2, .slice A0_3 l0_3.length c0_3] 27 (0, 0))) ∧ (w'.heap[s_.1]? = some (.cells #[.int .i64 0, .int .i64 0] 23 (0, 0))) ∧ (w'.heap[s_.2]? = some (.cells #[.int .i64 0, .int .i64 0] 23 (0, 0))) ∧ (w.heap.size ≤ s_.1) ∧ (w.heap.size ≤ s_.1) ∧ (gb623 ≠ s_.1) ∧ (s_.1 ≠ gb623) ∧ (s_.2 ≠ s_.1) ∧ (s_.1 ≠ s_.2) ∧ (w.heap.size ≤ s_.2) ∧ (w.heap.size ≤ s_.2) ∧ (gb623 ≠ s_.2) ∧ (s_.2 ≠ gb623) ∧ (Below w.heap.size w w')) ?_ ?_
                      rotate_left
                      ·intro hCont
                       refine two_ (i := 11) (j := 12) (Ni := some 12) (Nj := some 13) (bl 15 4095) (bl 15 6143) rfl rfl rfl rfl (two_of HT_.out (by kernel_rfl)) (by decide) (by decide) (fun K hK => ?_) (fun K hK => ?_)
                       ·skip
                        refine bxs 12 #[.int .i64 0, .int .i64 0] 23 ?_
                        intro gb636 hg w113 hbox hb
                        have n0_ := rE HO_7 hg hb
                        have n1_ := Aside0.mk (blk_below (uK BK623.out) hb)
                        have n2_ := Aside0.mk (below_step uB hb)
                        have n3_ := Aside0.mk (hbox)
                        have n4_ := gw hg
                        have n5_ := gw hg
                        have n6_ := nb BK623 hg
                        have n7_ := nc BK623 hg
                        clear HO_7 BK623 HB
                        have HO_7 := n0_
                        have BK623 := n1_
                        have HB := n2_
                        have BK636 := n3_
                        have GW636 := n4_
                        have GE636 := n5_
                        have NB623_636 := n6_
                        have NB636_623 := n7_
                        clear n0_ n1_ n2_ n3_ n4_ n5_ n6_ n7_
                        clear hb hbox hg
                        refine hK.out _ _ ⟨(blk_cell BK623.out 0).trans rfl, (blk_cell BK623.out 1).trans rfl, (blk_cell BK623.out 2).trans rfl, (blk_cell BK623.out 3).trans rfl, (hcell HB.out hw634_0), (hcell HB.out hw634_1), (hcell HB.out hw635_0), (hcell HB.out hw635_1)⟩ (fun hHeld => ?_)
                        clear hK K
                        refine nm ?_
                        refine one_ (i := 12) (N := some 13) (bl 15 8191) rfl rfl (one_of HT_.out (by kernel_rfl)) (by decide) (fun K hK => ?_)
                        refine bxs 13 #[.int .i64 0, .int .i64 0] 23 ?_
                        intro gb637 hg w114 hbox hb
                        have n0_ := rE HO_7 hg hb
                        have n1_ := Aside0.mk (blk_below (uK BK623.out) hb)
                        have n2_ := Aside0.mk (blk_below (uK BK636.out) hb)
                        have n3_ := Aside0.mk (below_step uB hb)
                        have n4_ := Aside0.mk (hbox)
                        have n5_ := gw hg
                        have n6_ := gw hg
                        have n7_ := nb BK623 hg
                        have n8_ := nc BK623 hg
                        have n9_ := nb BK636 hg
                        have n10_ := nc BK636 hg
                        clear HO_7 BK623 BK636 HB
                        have HO_7 := n0_
                        have BK623 := n1_
                        have BK636 := n2_
                        have HB := n3_
                        have BK637 := n4_
                        have GW637 := n5_
                        have GE637 := n6_
                        have NB623_637 := n7_
                        have NB637_623 := n8_
                        have NB636_637 := n9_
                        have NB637_636 := n10_
                        clear n0_ n1_ n2_ n3_ n4_ n5_ n6_ n7_ n8_ n9_ n10_
                        clear hb hbox hg
                        refine hK.out _ _ ⟨(blk_cell BK623.out 0).trans rfl, (blk_cell BK623.out 1).trans rfl, (blk_cell BK623.out 2).trans rfl, (blk_cell BK623.out 3).trans rfl, (hcell HB.out hw634_0), (hcell HB.out hw634_1), (hcell HB.out hw635_0), (hcell HB.out hw635_1)⟩ (fun hHeld => ?_)
                        clear hK K
                        refine nm ?_
                        exact norm_ (by simp only [putAll, Act.put, List.setIfInBounds_toArray, List.set_cons_zero, List.set_cons_succ]) (hCont (gb636, gb637) _ ⟨hHeld, (by refine uR ?_; exact Kd.R_mono HO_7.out (fun _ hk => ⟨hk.1.2, hk.2⟩)), (uK BK623.out), (uK BK636.out), (uK BK637.out), GW636.out, GE636.out, NB623_636.out, NB636_623.out, NB637_636.out, NB636_637.out, GW637.out, GE637.out, NB623_637.out, NB637_623.out, uB⟩)
                       ·skip
                        refine bxs 13 #[.int .i64 0, .int .i64 0] 23 ?_
                        intro gb637 hg w113 hbox hb
                        have n0_ := rE HO_7 hg hb
                        have n1_ := Aside0.mk (blk_below (uK BK623.out) hb)
                        have n2_ := Aside0.mk (below_step uB hb)
                        have n3_ := Aside0.mk (hbox)
                        have n4_ := gw hg
                        have n5_ := gw hg
                        have n6_ := nb BK623 hg
                        have n7_ := nc BK623 hg
                        clear HO_7 BK623 HB
                        have HO_7 := n0_
                        have BK623 := n1_
                        have HB := n2_
                        have BK637 := n3_
                        have GW637 := n4_
                        have GE637 := n5_
                        have NB623_637 := n6_
                        have NB637_623 := n7_
                        clear n0_ n1_ n2_ n3_ n4_ n5_ n6_ n7_
                        clear hb hbox hg
                        refine hK.out _ _ ⟨(blk_cell BK623.out 0).trans rfl, (blk_cell BK623.out 1).trans rfl, (blk_cell BK623.out 2).trans rfl, (blk_cell BK623.out 3).trans rfl, (hcell HB.out hw634_0), (hcell HB.out hw634_1), (hcell HB.out hw635_0), (hcell HB.out hw635_1)⟩ (fun hHeld => ?_)
                        clear hK K
                        refine nm ?_
                        refine one_ (i := 11) (N := some 12) (bl 15 8191) rfl rfl (one_of HT_.out (by kernel_rfl)) (by decide) (fun K hK => ?_)
                        refine bxs 12 #[.int .i64 0, .int .i64 0] 23 ?_
                        intro gb636 hg w114 hbox hb
                        have n0_ := rE HO_7 hg hb
                        have n1_ := Aside0.mk (blk_below (uK BK623.out) hb)
                        have n2_ := Aside0.mk (blk_below (uK BK637.out) hb)
                        have n3_ := Aside0.mk (below_step uB hb)
                        have n4_ := Aside0.mk (hbox)
                        have n5_ := gw hg
                        have n6_ := gw hg
                        have n7_ := nb BK623 hg
                        have n8_ := nc BK623 hg
                        have n9_ := nb BK637 hg
                        have n10_ := nc BK637 hg
                        clear HO_7 BK623 BK637 HB
                        have HO_7 := n0_
                        have BK623 := n1_
                        have BK637 := n2_
                        have HB := n3_
                        have BK636 := n4_
                        have GW636 := n5_
                        have GE636 := n6_
                        have NB623_636 := n7_
                        have NB636_623 := n8_
                        have NB637_636 := n9_
                        have NB636_637 := n10_
                        clear n0_ n1_ n2_ n3_ n4_ n5_ n6_ n7_ n8_ n9_ n10_
                        clear hb hbox hg
                        refine hK.out _ _ ⟨(blk_cell BK623.out 0).trans rfl, (blk_cell BK623.out 1).trans rfl, (blk_cell BK623.out 2).trans rfl, (blk_cell BK623.out 3).trans rfl, (hcell HB.out hw634_0), (hcell HB.out hw634_1), (hcell HB.out hw635_0), (hcell HB.out hw635_1)⟩ (fun hHeld => ?_)
                        clear hK K
                        refine nm ?_
                        exact norm_ (by simp only [putAll, Act.put, List.setIfInBounds_toArray, List.set_cons_zero, List.set_cons_succ]) (hCont (gb636, gb637) _ ⟨hHeld, (by refine uR ?_; exact Kd.R_mono HO_7.out (fun _ hk => ⟨hk.2, hk.1.2⟩)), (uK BK623.out), (uK BK636.out), (uK BK637.out), GW636.out, GE636.out, NB623_636.out, NB636_623.out, NB637_636.out, NB636_637.out, GW637.out, GE637.out, NB623_637.out, NB637_623.out, uB⟩)
                      rintro ⟨gb636, gb637⟩ w115 ⟨hS_, h0_, h1_, h2_, h3_, h4_, h5_, h6_, h7_, h8_, h9_, h10_, h11_, h12_, h13_, h14_⟩
                      try dsimp only at h0_ h1_ h2_ h3_ h4_ h5_ h6_ h7_ h8_ h9_ h10_ h11_ h12_ h13_ h14_
                      have n0_ := Aside0.mk h0_
                      have n1_ := Aside0.mk h1_
                      have n2_ := Aside0.mk h2_
                      have n3_ := Aside0.mk h3_
                      have n4_ := Aside0.mk h4_
                      have n5_ := Aside0.mk h5_
                      have n6_ := Aside0.mk h6_
                      have n7_ := Aside0.mk h7_
                      have n8_ := Aside0.mk h8_
                      have n9_ := Aside0.mk h9_
                      have n10_ := Aside0.mk h10_
                      have n11_ := Aside0.mk h11_
                      have n12_ := Aside0.mk h12_
                      have n13_ := Aside0.mk h13_
                      have n14_ := Aside0.mk h14_
                      clear HO_7 BK623 HB
                      clear h0_ h1_ h2_ h3_ h4_ h5_ h6_ h7_ h8_ h9_ h10_ h11_ h12_ h13_ h14_
                      have HO_7 := n0_
                      have BK623 := n1_
                      have BK636 := n2_
                      have BK637 := n3_
                      have GW636 := n4_
                      have GE636 := n5_
                      have NB623_636 := n6_
                      have NB636_623 := n7_
                      have NB637_636 := n8_
                      have NB636_637 := n9_
                      have GW637 := n10_
                      have GE637 := n11_
                      have NB623_637 := n12_
                      have NB637_623 := n13_
                      have HB := n14_
                      clear n0_ n1_ n2_ n3_ n4_ n5_ n6_ n7_ n8_ n9_ n10_ n11_ n12_ n13_ n14_
                      have hHeld : w115.cell? ⟨gb623, 0, none⟩ = some (.int .i64 a0_0) ∧ w115.cell? ⟨gb623, 1, none⟩ = some (.int .i64 a0_1) ∧ w115.cell? ⟨gb623, 2, none⟩ = some (.slice (some ad634) l0_2.length c0_2) ∧ w115.cell? ⟨gb623, 3, none⟩ = some (.slice A0_3 l0_3.length c0_3) ∧ w115.cell? (ad634.add ((x11_3).toNat * 2)) = some (.int .i64 ((rd_T23 l0_2 x11_3).f0)) ∧ w115.cell? ⟨(ad634.add ((x11_3).toNat * 2)).block, (ad634.add ((x11_3).toNat * 2)).off + 1, none⟩ = some (.int .i64 ((rd_T23 l0_2 x11_3).f1)) ∧ w115.cell? (ad634.add (((ji43)).toNat * 2)) = some (.int .i64 ((rd_T23 l0_2 (ji43)).f0)) ∧ w115.cell? ⟨(ad634.add (((ji43)).toNat * 2)).block, (ad634.add (((ji43)).toNat * 2)).off + 1, none⟩ = some (.int .i64 ((rd_T23 l0_2 (ji43)).f1)) := hS_
                      refine nm ?_
                      refine one_ (i := 13) (N := none) (bl 15 16383) rfl rfl (one_of HT_.out (by kernel_rfl)) (by decide) (fun K hK => ?_)
                      have hs116 := (blk_cell BK636.out 0).trans rfl
                      have hfs116 := blk_frozen BK636.out 0
                      have hns116_0 := NB623_636.out
                      have hns116_2 := NB637_636.out
                      have hms116_0 := NB636_623.out
                      have hms116_2 := NB636_637.out
                      have hs117 := (blk_cell BK636.out 1).trans rfl
                      have hfs117 := blk_frozen BK636.out 1
                      have hns117_0 := NB623_636.out
                      have hns117_2 := NB637_636.out
                      have hms117_0 := NB636_623.out
                      have hms117_2 := NB636_637.out
                      refine skip_ (w1 := ?_) (by rfl) rfl ?_ ?_
                      rotate_left
                      ·go_simp
                       rfl
                      refine hK.out _ _ ⟨((cf gb636 NB623_636.out).trans (((cf gb636 NB623_636.out).trans (hHeld.1)))), ((cf gb636 NB623_636.out).trans (((cf gb636 NB623_636.out).trans (hHeld.2.1)))), ((cf gb636 NB623_636.out).trans (((cf gb636 NB623_636.out).trans (hHeld.2.2.1)))), ((cf gb636 NB623_636.out).trans (((cf gb636 NB623_636.out).trans (hHeld.2.2.2.1)))), ((cf gb636 (fl hw634_0 GW636)).trans (((cf gb636 (fl hw634_0 GW636)).trans (hHeld.2.2.2.2.1)))), ((cf gb636 (fl hw634_1 GW636)).trans (((cf gb636 (fl hw634_1 GW636)).trans (hHeld.2.2.2.2.2.1)))), ((cf gb636 (fl hw635_0 GW636)).trans (((cf gb636 (fl hw635_0 GW636)).trans (hHeld.2.2.2.2.2.2.1)))), ((cf gb636 (fl hw635_1 GW636)).trans (((cf gb636 (fl hw635_1 GW636)).trans (hHeld.2.2.2.2.2.2.2))))⟩ (fun hHeld => ?_)
                      clear hK K
                      refine one_ (i := 14) (N := none) (bl 15 32767) rfl rfl (one_of HT_.out (by kernel_rfl)) (by decide) (fun K hK => ?_)
                      have hs118 := (blk_cell BK637.out 0).trans rfl
                      have hfs118 := blk_frozen BK637.out 0
                      have hns118_0 := NB623_637.out
                      have hns118_1 := NB636_637.out
                      have hms118_0 := NB637_623.out
                      have hms118_1 := NB637_636.out
                      have hs119 := (blk_cell BK637.out 1).trans rfl
                      have hfs119 := blk_frozen BK637.out 1
                      have hns119_0 := NB623_637.out
                      have hns119_1 := NB636_637.out
                      have hms119_0 := NB637_623.out
                      have hms119_1 := NB637_636.out
                      refine skip_ (w1 := ?_) (by rfl) rfl ?_ ?_
                      rotate_left
                      ·go_simp
                       rfl
                      refine hK.out _ _ ⟨((cf gb637 NB623_637.out).trans (((cf gb637 NB623_637.out).trans (hHeld.1)))), ((cf gb637 NB623_637.out).trans (((cf gb637 NB623_637.out).trans (hHeld.2.1)))), ((cf gb637 NB623_637.out).trans (((cf gb637 NB623_637.out).trans (hHeld.2.2.1)))), ((cf gb637 NB623_637.out).trans (((cf gb637 NB623_637.out).trans (hHeld.2.2.2.1)))), ((cf gb637 (fl hw634_0 GW637)).trans (((cf gb637 (fl hw634_0 GW637)).trans (hHeld.2.2.2.2.1)))), ((cf gb637 (fl hw634_1 GW637)).trans (((cf gb637 (fl hw634_1 GW637)).trans (hHeld.2.2.2.2.2.1)))), ((cf gb637 (fl hw635_0 GW637)).trans (((cf gb637 (fl hw635_0 GW637)).trans (hHeld.2.2.2.2.2.2.1)))), ((cf gb637 (fl hw635_1 GW637)).trans (((cf gb637 (fl hw635_1 GW637)).trans (hHeld.2.2.2.2.2.2.2))))⟩ (fun hHeld => ?_)
                      clear hK K
                      refine done_ (done_of HT_.out (by kernel_rfl)) ?_
                      try go_wp2
                      have n0_ : Aside0 (Kd.R k23 23 ((((w115.setCell ⟨gb636, 0, none⟩ (.int .i64 ((rd_T23 l0_2 x11_3).f0))).setCell ⟨gb636, 1, none⟩ (.int .i64 ((rd_T23 l0_2 x11_3).f1))).setCell ⟨gb637, 0, none⟩ (.int .i64 ((rd_T23 l0_2 (ji43)).f0))).setCell ⟨gb637, 1, none⟩ (.int .i64 ((rd_T23 l0_2 (ji43)).f1))) w.heap.size (fun k_ => k_ ≠ gb636 ∧ k_ ≠ gb637) (.slice Ao111 t628.length co111) t628) := ⟨by refine uR ?_; exact Kd.R_mono (Kd.R_far (p := ⟨gb637, 1, none⟩) (Kd.R_far (p := ⟨gb637, 0, none⟩) (Kd.R_far (p := ⟨gb636, 1, none⟩) (Kd.R_far (p := ⟨gb636, 0, none⟩) (Kd.R_mono (Kd.R_mono HO_7.out (fun k_ hk => (⟨hk, hk.1⟩ : _ ∧ k_ ≠ gb636))) (fun k_ hk => (⟨hk, hk.1.2⟩ : _ ∧ k_ ≠ gb637))) (fun _ hk => hk.1.2) (.int .i64 ((rd_T23 l0_2 x11_3).f0))) (fun _ hk => hk.1.2) (.int .i64 ((rd_T23 l0_2 x11_3).f1))) (fun _ hk => hk.2) (.int .i64 ((rd_T23 l0_2 (ji43)).f0))) (fun _ hk => hk.2) (.int .i64 ((rd_T23 l0_2 (ji43)).f1))) (fun _ hk => ⟨hk.1.1.1, hk.1.1.2⟩)⟩
                      have n1_ : Aside0 (((((w115.setCell ⟨gb636, 0, none⟩ (.int .i64 ((rd_T23 l0_2 x11_3).f0))).setCell ⟨gb636, 1, none⟩ (.int .i64 ((rd_T23 l0_2 x11_3).f1))).setCell ⟨gb637, 0, none⟩ (.int .i64 ((rd_T23 l0_2 (ji43)).f0))).setCell ⟨gb637, 1, none⟩ (.int .i64 ((rd_T23 l0_2 (ji43)).f1))).heap[gb623]? = some (.cells #[.int .i64 a0_0, .int .i64 a0_1, .slice (some ad634) l0_2.length c0_2, .slice A0_3 l0_3.length c0_3] 27 (0, 0))) := ⟨by refine uK ?_; refine blk_far ?_ NB623_637.out _; refine uK ?_; refine blk_far ?_ NB623_637.out _; refine uK ?_; refine blk_far ?_ NB623_636.out _; refine uK ?_; refine blk_far ?_ NB623_636.out _; refine uK ?_; exact BK623.out⟩
                      have n2_ : Aside0 (((((w115.setCell ⟨gb636, 0, none⟩ (.int .i64 ((rd_T23 l0_2 x11_3).f0))).setCell ⟨gb636, 1, none⟩ (.int .i64 ((rd_T23 l0_2 x11_3).f1))).setCell ⟨gb637, 0, none⟩ (.int .i64 ((rd_T23 l0_2 (ji43)).f0))).setCell ⟨gb637, 1, none⟩ (.int .i64 ((rd_T23 l0_2 (ji43)).f1))).heap[gb636]? = some (.cells #[.int .i64 ((rd_T23 l0_2 x11_3).f0), .int .i64 ((rd_T23 l0_2 x11_3).f1)] 23 (0, 0))) := ⟨by refine uK ?_; refine blk_far ?_ NB636_637.out _; refine uK ?_; refine blk_far ?_ NB636_637.out _; refine uK ?_; refine blk_put (cs := #[.int .i64 ((rd_T23 l0_2 x11_3).f0), .int .i64 0]) ?_ 1 _ rfl; refine uK ?_; refine blk_put (cs := #[.int .i64 0, .int .i64 0]) ?_ 0 _ rfl; refine uK ?_; exact BK636.out⟩
                      have n3_ : Aside0 (((((w115.setCell ⟨gb636, 0, none⟩ (.int .i64 ((rd_T23 l0_2 x11_3).f0))).setCell ⟨gb636, 1, none⟩ (.int .i64 ((rd_T23 l0_2 x11_3).f1))).setCell ⟨gb637, 0, none⟩ (.int .i64 ((rd_T23 l0_2 (ji43)).f0))).setCell ⟨gb637, 1, none⟩ (.int .i64 ((rd_T23 l0_2 (ji43)).f1))).heap[gb637]? = some (.cells #[.int .i64 ((rd_T23 l0_2 (ji43)).f0), .int .i64 ((rd_T23 l0_2 (ji43)).f1)] 23 (0, 0))) := ⟨by refine uK ?_; refine blk_put (cs := #[.int .i64 ((rd_T23 l0_2 (ji43)).f0), .int .i64 0]) ?_ 1 _ rfl; refine uK ?_; refine blk_put (cs := #[.int .i64 0, .int .i64 0]) ?_ 0 _ rfl; refine uK ?_; refine blk_far ?_ NB637_636.out _; refine uK ?_; refine blk_far ?_ NB637_636.out _; refine uK ?_; exact BK637.out⟩
                      have n4_ : Aside0 (Below w.heap.size w ((((w115.setCell ⟨gb636, 0, none⟩ (.int .i64 ((rd_T23 l0_2 x11_3).f0))).setCell ⟨gb636, 1, none⟩ (.int .i64 ((rd_T23 l0_2 x11_3).f1))).setCell ⟨gb637, 0, none⟩ (.int .i64 ((rd_T23 l0_2 (ji43)).f0))).setCell ⟨gb637, 1, none⟩ (.int .i64 ((rd_T23 l0_2 (ji43)).f1)))) := ⟨uB⟩
                      (try clear HO_7)
                      (try clear BK623)
                      (try clear BK636)
                      (try clear BK637)
                      (try clear HB)
                      generalize ((((w115.setCell ⟨gb636, 0, none⟩ (.int .i64 ((rd_T23 l0_2 x11_3).f0))).setCell ⟨gb636, 1, none⟩ (.int .i64 ((rd_T23 l0_2 x11_3).f1))).setCell ⟨gb637, 0, none⟩ (.int .i64 ((rd_T23 l0_2 (ji43)).f0))).setCell ⟨gb637, 1, none⟩ (.int .i64 ((rd_T23 l0_2 (ji43)).f1))) = w120 at n0_ n1_ n2_ n3_ n4_ ⊢
                      have HO_7 := n0_
                      have BK623 := n1_
                      have BK636 := n2_
                      have BK637 := n3_
                      have HB := n4_
                      clear n0_ n1_ n2_ n3_ n4_
                      replace HO_7 := Aside0.mk (Kd.R_drew HO_7.out)
                      replace BK623 := Aside0.mk (blk_drew BK623.out)
                      replace BK636 := Aside0.mk (blk_drew BK636.out)
                      replace BK637 := Aside0.mk (blk_drew BK637.out)
                      replace HB := Aside0.mk (below_drew1 HB.out)
                      have p638 : 0 ≤ (x11_3 : Int) := of_decide_eq_true (by first | (with_reducible assumption) | assumption)
                      have q638 : x11_3 < (l2.length : Int) := of_decide_eq_true (by first | (with_reducible assumption) | assumption)
                      obtain ⟨ad638, e638, hx638_0⟩ := Kd.at_int HR2.out x11_3 p638 q638
                      have hw638_0 := hx638_0
                      cases e638
                      replace hx638_0 := hcell HB.out hx638_0
                      replace p638 := eq_true p638
                      replace q638 := eq_true q638
                      have p639 : 0 ≤ ((ji43) : Int) := of_decide_eq_true (by first | (with_reducible assumption) | assumption)
                      have q639 : (ji43) < (l2.length : Int) := of_decide_eq_true (by first | (with_reducible assumption) | assumption)
                      obtain ⟨ad639, e639, hx639_0⟩ := Kd.at_int HR2.out (ji43) p639 q639
                      have hw639_0 := hx639_0
                      obtain rfl : ad638 = ad639 := (by injection e639)
                      replace hx639_0 := hcell HB.out hx639_0
                      replace p639 := eq_true p639
                      replace q639 := eq_true q639
                      refine start_ (n := 12) (S := fun w' => w'.cell? (ad638.add (x11_3).toNat) = some (.int .i64 (rd l2 x11_3)) ∧ w'.cell? (ad638.add ((ji43)).toNat) = some (.int .i64 (rd l2 (ji43)))) (ds := []) (bl 12 0) (by kernel_rfl) rfl rfl ⟨(hcell HB.out hw638_0), (hcell HB.out hw639_0)⟩ (fun hHeld => ?_); refine with_tabW quinarialaw02_ChannelHeights.tab11 quinarialaw02_ChannelHeights.bits11 (fun HT_ HW_ => ?_)
                      generalize w120.drew = w121 at HO_7 BK623 BK636 BK637 HB hx638_0 hx639_0 hHeld ⊢
                      refine pu 0 76 12 1 ?_
                      refine pu 1 77 12 3 ?_
                      refine pu 2 78 12 7 ?_
                      refine pu 3 79 12 15 ?_
                      refine pu 5 81 12 47 ?_
                      refine pu 6 82 12 111 ?_
                      refine pu 7 83 12 239 ?_
                      refine pu 8 84 12 495 ?_
                      refine tk2 4 80 12 511 hHeld ?_
                      refine tk2 9 85 12 1023 hHeld ?_
                      refine one_ (i := 10) (N := some 86) (bl 12 2047) rfl rfl (one_of HT_.out (by kernel_rfl)) (by decide) (fun K hK => ?_)
                      refine goes_ Tryz.func22 (by kernel_rfl) rfl #[.int .i64 a1, .int .i64 (rd l2 x11_3), .int .i64 (rd l2 (ji43))] (by rfl) rfl rfl (by (try simp only [List.map_toArray, List.map_cons, List.map_nil]); first | done | (simp only [hji43]; rfl) | rfl | (simp only [List.length_drop, List.length_take]; rfl)) ?_
                      with_reducible refine (quinariaref02_Pressure.calls a1 (rd l2 x11_3) (rd l2 (ji43)) t640 _ A48.out).mono ?_
                      rintro e w122 ⟨rfl, hb⟩
                      refine ⟨_, rfl, ?_⟩
                      replace HO_7 := Aside0.mk (Kd.R_below (uR HO_7.out) hb)
                      replace BK623 := Aside0.mk (blk_below (uK BK623.out) hb)
                      replace BK636 := Aside0.mk (blk_below (uK BK636.out) hb)
                      replace BK637 := Aside0.mk (blk_below (uK BK637.out) hb)
                      replace HB := Aside0.mk (below_step uB hb)
                      (try clear hb)
                      (try clear hb2)
                      (try clear hk)
                      (try clear hi)
                      refine hK.out _ _ ⟨(hcell HB.out hw638_0), (hcell HB.out hw639_0)⟩ (fun hHeld => ?_)
                      clear hK K
                      refine nm ?_
                      refine pu 11 14 12 4095 ?_
                      refine done_ (done_of HT_.out (by kernel_rfl)) ?_
                      try go_wp2
                      replace HO_7 := Aside0.mk (Kd.R_drew HO_7.out)
                      replace BK623 := Aside0.mk (blk_drew BK623.out)
                      replace BK636 := Aside0.mk (blk_drew BK636.out)
                      replace BK637 := Aside0.mk (blk_drew BK637.out)
                      replace HB := Aside0.mk (below_drew1 HB.out)
                      have p641 : 0 ≤ (x11_3 : Int) := of_decide_eq_true (by first | (with_reducible assumption) | assumption)
                      have q641 : x11_3 < (t628.length : Int) := of_decide_eq_true (by first | (with_reducible assumption) | assumption)
                      obtain ⟨ad641, e641, hx641_0, hx641_1⟩ := at_T23 (Kd.R_reads' HO_7.out).2.2 x11_3 p641 q641
                      cases e641
                      replace p641 := eq_true p641
                      replace q641 := eq_true q641
                      have p642 : 0 ≤ (x11_3 : Int) := of_decide_eq_true (by first | (with_reducible assumption) | assumption)
                      have q642 : x11_3 < (t628.length : Int) := of_decide_eq_true (by first | (with_reducible assumption) | assumption)
                      obtain ⟨ad642, e642, hx642_0, hx642_1⟩ := at_T23 (Kd.R_reads' HO_7.out).2.2 x11_3 p642 q642
                      obtain rfl : ad641 = ad642 := (by injection e642)
                      replace p642 := eq_true p642
                      replace q642 := eq_true q642
                      have p643 : 0 ≤ (x11_3 : Int) := of_decide_eq_true (by first | (with_reducible assumption) | assumption)
                      have q643 : x11_3 < (t628.length : Int) := of_decide_eq_true (by first | (with_reducible assumption) | assumption)
                      obtain ⟨ad643, e643, hx643_0, hx643_1⟩ := at_T23 (Kd.R_reads' HO_7.out).2.2 x11_3 p643 q643
                      obtain rfl : ad641 = ad643 := (by injection e643)
                      replace p643 := eq_true p643
                      replace q643 := eq_true q643
                      refine start_ (n := 48) (S := fun w' => w'.cell? ⟨gb623, 0, none⟩ = some (.int .i64 a0_0) ∧ w'.cell? ⟨gb623, 1, none⟩ = some (.int .i64 a0_1) ∧ w'.cell? ⟨gb623, 2, none⟩ = some (.slice (some ad634) l0_2.length c0_2) ∧ w'.cell? ⟨gb623, 3, none⟩ = some (.slice A0_3 l0_3.length c0_3) ∧ w'.cell? ⟨gb636, 0, none⟩ = some (.int .i64 ((rd_T23 l0_2 x11_3).f0)) ∧ w'.cell? ⟨gb636, 1, none⟩ = some (.int .i64 ((rd_T23 l0_2 x11_3).f1)) ∧ w'.cell? ⟨gb637, 0, none⟩ = some (.int .i64 ((rd_T23 l0_2 (ji43)).f0)) ∧ w'.cell? ⟨gb637, 1, none⟩ = some (.int .i64 ((rd_T23 l0_2 (ji43)).f1)) ∧ w'.cell? (ad641.add ((x11_3).toNat * 2)) = some (.int .i64 ((rd_T23 t628 x11_3).f0)) ∧ w'.cell? ⟨(ad641.add ((x11_3).toNat * 2)).block, (ad641.add ((x11_3).toNat * 2)).off + 1, none⟩ = some (.int .i64 ((rd_T23 t628 x11_3).f1)) ∧ w'.cell? (ad641.add ((x11_3).toNat * 2)) = some (.int .i64 ((rd_T23 t628 x11_3).f0)) ∧ w'.cell? ⟨(ad641.add ((x11_3).toNat * 2)).block, (ad641.add ((x11_3).toNat * 2)).off + 1, none⟩ = some (.int .i64 ((rd_T23 t628 x11_3).f1)) ∧ w'.cell? (ad641.add ((x11_3).toNat * 2)) = some (.int .i64 ((rd_T23 t628 x11_3).f0)) ∧ w'.cell? ⟨(ad641.add ((x11_3).toNat * 2)).block, (ad641.add ((x11_3).toNat * 2)).off + 1, none⟩ = some (.int .i64 ((rd_T23 t628 x11_3).f1))) (ds := []) (bl 48 0) (by kernel_rfl) rfl rfl ⟨(blk_cell BK623.out 0).trans rfl, (blk_cell BK623.out 1).trans rfl, (blk_cell BK623.out 2).trans rfl, (blk_cell BK623.out 3).trans rfl, (blk_cell BK636.out 0).trans rfl, (blk_cell BK636.out 1).trans rfl, (blk_cell BK637.out 0).trans rfl, (blk_cell BK637.out 1).trans rfl, hx641_0, hx641_1, hx642_0, hx642_1, hx643_0, hx643_1⟩ (fun hHeld => ?_); refine with_tabW quinarialaw02_ChannelHeights.tab12 quinarialaw02_ChannelHeights.bits12 (fun HT_ HW_ => ?_)
                      generalize w122.drew = w123 at HO_7 BK623 BK636 BK637 HB hx641_0 hx641_1 hx642_0 hx642_1 hx643_0 hx643_1 hHeld ⊢
                      refine pu 0 87 48 1 ?_
                      refine pu 1 88 48 3 ?_
                      refine pu 2 89 48 7 ?_
                      refine pu 3 90 48 15 ?_
                      refine pu 4 91 48 31 ?_
                      refine tk14 5 92 48 63 hHeld ?_
                      refine pu 6 93 48 127 ?_
                      refine pu 7 94 48 255 ?_
                      refine pu 8 95 48 511 ?_
                      refine pu 9 96 48 1023 ?_
                      refine pu 10 97 48 2047 ?_
                      refine pu 11 98 48 4095 ?_
                      refine pu 12 99 48 8191 ?_
                      refine tk14 13 100 48 16383 hHeld ?_
                      refine pu 14 101 48 32767 ?_
                      refine pu 15 102 48 65535 ?_
                      refine pu 16 103 48 131071 ?_
                      refine pu 17 104 48 262143 ?_
                      refine pu 18 105 48 524287 ?_
                      refine pu 19 106 48 1048575 ?_
                      refine pu 20 107 48 2097151 ?_
                      refine pu 22 109 48 6291455 ?_
                      refine pu 23 110 48 14680063 ?_
                      refine pu 25 112 48 48234495 ?_
                      refine pu 27 114 48 182452223 ?_
                      refine tk14 21 108 48 184549375 hHeld ?_
                      refine tk14 24 111 48 201326591 hHeld ?_
                      refine tk14 26 113 48 268435455 hHeld ?_
                      refine tk14 28 115 48 536870911 hHeld ?_
                      refine one_ (i := 29) (N := some 116) (bl 48 1073741823) rfl rfl (one_of HT_.out (by kernel_rfl)) (by decide) (fun K hK => ?_)
                      refine goes_ Tryz.func22 (by kernel_rfl) rfl #[.int .i64 a0_1, .int .i64 ((rd_T23 l0_2 x11_3).f0), .int .i64 ((rd_T23 l0_2 (ji43)).f0)] (by rfl) rfl rfl (by (try simp only [List.map_toArray, List.map_cons, List.map_nil]); first | done | (simp only [hji43]; rfl) | rfl | (simp only [List.length_drop, List.length_take]; rfl)) ?_
                      with_reducible refine (quinariaref02_Pressure.calls a0_1 ((rd_T23 l0_2 x11_3).f0) ((rd_T23 l0_2 (ji43)).f0) t644 _ A77.out).mono ?_
                      rintro e w124 ⟨rfl, hb⟩
                      have HS8_ := (hb.cell (World.block_lt_of_cell? _ _ (hHeld.2.2.2.2.2.2.2.2.1))).trans (hHeld.2.2.2.2.2.2.2.2.1)
                      have HS9_ := (hb.cell (World.block_lt_of_cell? _ _ (hHeld.2.2.2.2.2.2.2.2.2.1))).trans (hHeld.2.2.2.2.2.2.2.2.2.1)
                      have HS10_ := (hb.cell (World.block_lt_of_cell? _ _ (hHeld.2.2.2.2.2.2.2.2.2.2.1))).trans (hHeld.2.2.2.2.2.2.2.2.2.2.1)
                      have HS11_ := (hb.cell (World.block_lt_of_cell? _ _ (hHeld.2.2.2.2.2.2.2.2.2.2.2.1))).trans (hHeld.2.2.2.2.2.2.2.2.2.2.2.1)
                      have HS12_ := (hb.cell (World.block_lt_of_cell? _ _ (hHeld.2.2.2.2.2.2.2.2.2.2.2.2.1))).trans (hHeld.2.2.2.2.2.2.2.2.2.2.2.2.1)
                      have HS13_ := (hb.cell (World.block_lt_of_cell? _ _ (hHeld.2.2.2.2.2.2.2.2.2.2.2.2.2))).trans (hHeld.2.2.2.2.2.2.2.2.2.2.2.2.2)
                      refine ⟨_, rfl, ?_⟩
                      replace HO_7 := Aside0.mk (Kd.R_below (uR HO_7.out) hb)
                      replace BK623 := Aside0.mk (blk_below (uK BK623.out) hb)
                      replace BK636 := Aside0.mk (blk_below (uK BK636.out) hb)
                      replace BK637 := Aside0.mk (blk_below (uK BK637.out) hb)
                      replace HB := Aside0.mk (below_step uB hb)
                      (try clear hb)
                      (try clear hb2)
                      (try clear hk)
                      (try clear hi)
                      refine hK.out _ _ ⟨(blk_cell BK623.out 0).trans rfl, (blk_cell BK623.out 1).trans rfl, (blk_cell BK623.out 2).trans rfl, (blk_cell BK623.out 3).trans rfl, (blk_cell BK636.out 0).trans rfl, (blk_cell BK636.out 1).trans rfl, (blk_cell BK637.out 0).trans rfl, (blk_cell BK637.out 1).trans rfl, HS8_, HS9_, HS10_, HS11_, HS12_, HS13_⟩ (fun hHeld => ?_)
                      clear hK K
                      refine nm ?_
                      refine pu 30 117 48 2147483647 ?_
                      refine pu 31 118 48 4294967295 ?_
                      refine pu 32 119 48 8589934591 ?_
                      refine pd 33 120 48 17179869183 ?_
                      refine pd 34 121 48 34359738367 ?_
                      refine pd 35 122 48 68719476735 ?_
                      refine pd 36 123 48 137438953471 ?_
                      refine pd 37 124 48 274877906943 ?_
                      refine pd 38 125 48 549755813887 ?_
                      refine pd 39 126 48 1099511627775 ?_
                      refine pd 40 127 48 2199023255551 ?_
                      refine pd 41 128 48 4398046511103 ?_
                      refine pd 42 129 48 8796093022207 ?_
                      refine pd 43 130 48 17592186044415 ?_
                      refine pd 44 131 48 35184372088831 ?_
                      refine pd 45 132 48 70368744177663 ?_
                      refine pd 46 133 48 140737488355327 ?_
                      refine pu 47 134 48 281474976710655 ?_
                      refine done_ (done_of HT_.out (by kernel_rfl)) ?_
                      try go_wp2
                      go_ret
                      exact ⟨by first | rfl | (simp [errW_none, errW_some] <;> rfl) | (simp only [← hji43]; first | rfl | (simp [errW_none, errW_some] <;> rfl)) | (simp [*, errW_none, errW_some] <;> rfl), uB⟩
              ·as_aux_lemma =>
                rw [if_neg c40] at H
                replace c40 := decide_eq_false c40
                obtain ⟨ji125, hji125⟩ : ∃ j_ : Int, (wrap64 ((l2.length : Int) - 1)) = j_ := ⟨_, rfl⟩
                replace H : (if 0 ≤ (ji125) then (if (ji125) < (l2.length : Int) then (if (ji125) < (l0_2.length : Int) then (if t632 = 2 then (if a0_1 > ((rd_T23 l0_2 (ji125)).f0) then (if (a0_0 > ((rd_T23 l0_2 (ji125)).f1)) then (some false) else ((quinarialaw02_known.f k3).bind fun t650 => (some t650))) else (some false)) else (if t632 = 3 then (if ((decide (a1 > (rd l2 (ji125)))) == (t632 == 3)) = true then ((quinarialaw02_known.f k3).bind fun t651 => (some t651)) else (some false)) else (if t632 = 1 then (if ((decide (a1 > (rd l2 (ji125)))) == (t632 == 3)) = true then ((quinarialaw02_known.f k3).bind fun t652 => (some t652)) else (some false)) else (some false)))) else (none)) else (none)) else (none)) = some r := by first | (rw [hji125] at H; exact H) | (simp only [hji125] at H ⊢; exact H)
                have hji125w : (IntKind.i64.wrap ((l2.length : Int) - 1)) = ji125 := (i64_w _).trans hji125
                obtain ⟨c126, H⟩ := ifs H
                replace c126 := decide_eq_true c126
                obtain ⟨c127, H⟩ := ifs H
                replace c127 := decide_eq_true c127
                obtain ⟨c128, H⟩ := ifs H
                replace c128 := decide_eq_true c128
                by_cases c129 : t632 = 2
                ·rw [if_pos c129] at H
                 have c129b0 : (t632 == 2) = true := beq_iff_eq.mpr c129
                 have c129b1 : (t632 != 2) = false := bne_eq_false_iff_eq.mpr c129
                 clear c129
                 by_cases c130 : a0_1 > ((rd_T23 l0_2 (ji125)).f0)
                 ·rw [if_pos c130] at H
                  replace c130 := decide_eq_true c130
                  by_cases c131 : (a0_0 > ((rd_T23 l0_2 (ji125)).f1))
                  ·rw [if_pos c131] at H
                   replace c131 := decide_eq_true c131
                   obtain rfl := Option.some.inj H
                   obtain ⟨Ao132, co132, eo132⟩ := Kd.R_slice HO_7.out
                   subst eo132
                   have p647 : 0 ≤ ((ji125) : Int) := of_decide_eq_true (by first | (with_reducible assumption) | assumption)
                   have q647 : (ji125) < (l2.length : Int) := of_decide_eq_true (by first | (with_reducible assumption) | assumption)
                   obtain ⟨ad647, e647, hx647_0⟩ := Kd.at_int HR2.out (ji125) p647 q647
                   cases e647
                   replace hx647_0 := hcell HB.out hx647_0
                   replace p647 := eq_true p647
                   replace q647 := eq_true q647
                   try go_wp2
                   replace HO_7 := Aside0.mk (Kd.R_drew HO_7.out)
                   replace BK623 := Aside0.mk (blk_drew BK623.out)
                   replace HB := Aside0.mk (below_drew1 HB.out)
                   have p648 : 0 ≤ ((ji125) : Int) := of_decide_eq_true (by first | (with_reducible assumption) | assumption)
                   have q648 : (ji125) < (l0_2.length : Int) := of_decide_eq_true (by first | (with_reducible assumption) | assumption)
                   obtain ⟨ad648, e648, hx648_0, hx648_1⟩ := at_T23 HR0_2.out (ji125) p648 q648
                   have hw648_1 := hx648_1
                   have hw648_0 := hx648_0
                   cases e648
                   replace hx648_0 := hcell HB.out hx648_0
                   replace hx648_1 := hcell HB.out hx648_1
                   replace p648 := eq_true p648
                   replace q648 := eq_true q648
                   have p649 : 0 ≤ ((ji125) : Int) := of_decide_eq_true (by first | (with_reducible assumption) | assumption)
                   have q649 : (ji125) < (l0_2.length : Int) := of_decide_eq_true (by first | (with_reducible assumption) | assumption)
                   obtain ⟨ad649, e649, hx649_0, hx649_1⟩ := at_T23 HR0_2.out (ji125) p649 q649
                   have hw649_1 := hx649_1
                   have hw649_0 := hx649_0
                   obtain rfl : ad648 = ad649 := (by injection e649)
                   replace hx649_0 := hcell HB.out hx649_0
                   replace hx649_1 := hcell HB.out hx649_1
                   replace p649 := eq_true p649
                   replace q649 := eq_true q649
                   refine start_ (n := 22) (S := fun w' => w'.cell? ⟨gb623, 0, none⟩ = some (.int .i64 a0_0) ∧ w'.cell? ⟨gb623, 1, none⟩ = some (.int .i64 a0_1) ∧ w'.cell? ⟨gb623, 2, none⟩ = some (.slice (some ad648) l0_2.length c0_2) ∧ w'.cell? ⟨gb623, 3, none⟩ = some (.slice A0_3 l0_3.length c0_3) ∧ w'.cell? (ad648.add (((ji125)).toNat * 2)) = some (.int .i64 ((rd_T23 l0_2 (ji125)).f0)) ∧ w'.cell? ⟨(ad648.add (((ji125)).toNat * 2)).block, (ad648.add (((ji125)).toNat * 2)).off + 1, none⟩ = some (.int .i64 ((rd_T23 l0_2 (ji125)).f1)) ∧ w'.cell? (ad648.add (((ji125)).toNat * 2)) = some (.int .i64 ((rd_T23 l0_2 (ji125)).f0)) ∧ w'.cell? ⟨(ad648.add (((ji125)).toNat * 2)).block, (ad648.add (((ji125)).toNat * 2)).off + 1, none⟩ = some (.int .i64 ((rd_T23 l0_2 (ji125)).f1))) (ds := []) (bl 22 0) (by kernel_rfl) rfl rfl ⟨(blk_cell BK623.out 0).trans rfl, (blk_cell BK623.out 1).trans rfl, (blk_cell BK623.out 2).trans rfl, (blk_cell BK623.out 3).trans rfl, (hcell HB.out hw648_0), (hcell HB.out hw648_1), (hcell HB.out hw649_0), (hcell HB.out hw649_1)⟩ (fun hHeld => ?_); refine with_tabW quinarialaw02_ChannelHeights.tab16 quinarialaw02_ChannelHeights.bits16 (fun HT_ HW_ => ?_)
                   generalize wr.drew = w133 at HO_7 BK623 HB hx648_0 hx648_1 hx649_0 hx649_1 hHeld ⊢
                   refine pu 0 144 22 1 ?_
                   refine pu 1 145 22 3 ?_
                   refine pu 3 147 22 11 ?_
                   refine pu 5 149 22 43 ?_
                   refine pu 10 154 22 1067 ?_
                   refine pu 11 155 22 3115 ?_
                   refine pu 13 157 22 11307 ?_
                   refine pu 15 159 22 44075 ?_
                   refine tk8 2 146 22 44079 hHeld ?_
                   refine tk8 4 148 22 44095 hHeld ?_
                   refine pu 6 150 22 44159 ?_
                   refine pu 7 151 22 44287 ?_
                   refine tk8 8 152 22 44543 hHeld ?_
                   refine pu 9 153 22 45055 ?_
                   refine pu 20 17 22 1093631 ?_
                   refine tk8 12 156 22 1097727 hHeld ?_
                   refine tk8 14 158 22 1114111 hHeld ?_
                   refine pu 16 160 22 1179647 ?_
                   refine pu 17 161 22 1310719 ?_
                   refine tk8 18 162 22 1572863 hHeld ?_
                   refine pu 19 163 22 2097151 ?_
                   refine pu 21 18 22 4194303 ?_
                   refine done_ (done_of HT_.out (by kernel_rfl)) ?_
                   try go_wp2
                   go_ret
                   exact ⟨by first | rfl | (simp [errW_none, errW_some] <;> rfl) | (simp only [← hji125]; first | rfl | (simp [errW_none, errW_some] <;> rfl)) | (simp [*, errW_none, errW_some] <;> rfl), uB⟩
                  ·rw [if_neg c131] at H
                   replace c131 := decide_eq_false c131
                   replace H := Option.bind_eq_some_iff.mp H
                   obtain ⟨t650, A1340, H⟩ := H
                   replace H : (some t650) = some r := H
                   have A134 := Aside0.mk A1340
                   clear A1340
                   obtain rfl := Option.some.inj H
                   obtain ⟨Ao135, co135, eo135⟩ := Kd.R_slice HO_7.out
                   subst eo135
                   have p647 : 0 ≤ ((ji125) : Int) := of_decide_eq_true (by first | (with_reducible assumption) | assumption)
                   have q647 : (ji125) < (l2.length : Int) := of_decide_eq_true (by first | (with_reducible assumption) | assumption)
                   obtain ⟨ad647, e647, hx647_0⟩ := Kd.at_int HR2.out (ji125) p647 q647
                   cases e647
                   replace hx647_0 := hcell HB.out hx647_0
                   replace p647 := eq_true p647
                   replace q647 := eq_true q647
                   try go_wp2
                   replace HO_7 := Aside0.mk (Kd.R_drew HO_7.out)
                   replace BK623 := Aside0.mk (blk_drew BK623.out)
                   replace HB := Aside0.mk (below_drew1 HB.out)
                   have p648 : 0 ≤ ((ji125) : Int) := of_decide_eq_true (by first | (with_reducible assumption) | assumption)
                   have q648 : (ji125) < (l0_2.length : Int) := of_decide_eq_true (by first | (with_reducible assumption) | assumption)
                   obtain ⟨ad648, e648, hx648_0, hx648_1⟩ := at_T23 HR0_2.out (ji125) p648 q648
                   have hw648_1 := hx648_1
                   have hw648_0 := hx648_0
                   cases e648
                   replace hx648_0 := hcell HB.out hx648_0
                   replace hx648_1 := hcell HB.out hx648_1
                   replace p648 := eq_true p648
                   replace q648 := eq_true q648
                   have p649 : 0 ≤ ((ji125) : Int) := of_decide_eq_true (by first | (with_reducible assumption) | assumption)
                   have q649 : (ji125) < (l0_2.length : Int) := of_decide_eq_true (by first | (with_reducible assumption) | assumption)
                   obtain ⟨ad649, e649, hx649_0, hx649_1⟩ := at_T23 HR0_2.out (ji125) p649 q649
                   have hw649_1 := hx649_1
                   have hw649_0 := hx649_0
                   obtain rfl : ad648 = ad649 := (by injection e649)
                   replace hx649_0 := hcell HB.out hx649_0
                   replace hx649_1 := hcell HB.out hx649_1
                   replace p649 := eq_true p649
                   replace q649 := eq_true q649
                   refine start_ (n := 22) (S := fun w' => w'.cell? ⟨gb623, 0, none⟩ = some (.int .i64 a0_0) ∧ w'.cell? ⟨gb623, 1, none⟩ = some (.int .i64 a0_1) ∧ w'.cell? ⟨gb623, 2, none⟩ = some (.slice (some ad648) l0_2.length c0_2) ∧ w'.cell? ⟨gb623, 3, none⟩ = some (.slice A0_3 l0_3.length c0_3) ∧ w'.cell? (ad648.add (((ji125)).toNat * 2)) = some (.int .i64 ((rd_T23 l0_2 (ji125)).f0)) ∧ w'.cell? ⟨(ad648.add (((ji125)).toNat * 2)).block, (ad648.add (((ji125)).toNat * 2)).off + 1, none⟩ = some (.int .i64 ((rd_T23 l0_2 (ji125)).f1)) ∧ w'.cell? (ad648.add (((ji125)).toNat * 2)) = some (.int .i64 ((rd_T23 l0_2 (ji125)).f0)) ∧ w'.cell? ⟨(ad648.add (((ji125)).toNat * 2)).block, (ad648.add (((ji125)).toNat * 2)).off + 1, none⟩ = some (.int .i64 ((rd_T23 l0_2 (ji125)).f1))) (ds := []) (bl 22 0) (by kernel_rfl) rfl rfl ⟨(blk_cell BK623.out 0).trans rfl, (blk_cell BK623.out 1).trans rfl, (blk_cell BK623.out 2).trans rfl, (blk_cell BK623.out 3).trans rfl, (hcell HB.out hw648_0), (hcell HB.out hw648_1), (hcell HB.out hw649_0), (hcell HB.out hw649_1)⟩ (fun hHeld => ?_); refine with_tabW quinarialaw02_ChannelHeights.tab16 quinarialaw02_ChannelHeights.bits16 (fun HT_ HW_ => ?_)
                   generalize wr.drew = w136 at HO_7 BK623 HB hx648_0 hx648_1 hx649_0 hx649_1 hHeld ⊢
                   refine pu 0 144 22 1 ?_
                   refine pu 1 145 22 3 ?_
                   refine pu 3 147 22 11 ?_
                   refine pu 5 149 22 43 ?_
                   refine pu 10 154 22 1067 ?_
                   refine pu 11 155 22 3115 ?_
                   refine pu 13 157 22 11307 ?_
                   refine pu 15 159 22 44075 ?_
                   refine tk8 2 146 22 44079 hHeld ?_
                   refine tk8 4 148 22 44095 hHeld ?_
                   refine pu 6 150 22 44159 ?_
                   refine pu 7 151 22 44287 ?_
                   refine tk8 8 152 22 44543 hHeld ?_
                   refine pu 9 153 22 45055 ?_
                   refine pu 20 17 22 1093631 ?_
                   refine tk8 12 156 22 1097727 hHeld ?_
                   refine tk8 14 158 22 1114111 hHeld ?_
                   refine pu 16 160 22 1179647 ?_
                   refine pu 17 161 22 1310719 ?_
                   refine tk8 18 162 22 1572863 hHeld ?_
                   refine pu 19 163 22 2097151 ?_
                   refine pu 21 18 22 4194303 ?_
                   refine done_ (done_of HT_.out (by kernel_rfl)) ?_
                   try go_wp2_with (first | (go_at_call 14; (with_reducible refine (quinarialaw02_known.calls k3  t650 _ ?sideT A134.out).mono ?_); (case sideT => exact HT.out.below uB); rintro e w137 ⟨rfl, hb⟩; replace HO_7 := Aside0.mk (Kd.R_below (uR HO_7.out) hb); replace BK623 := Aside0.mk (blk_below (uK BK623.out) hb); replace HB := Aside0.mk (below_step uB hb); (try clear hb); (try clear hb2); (try clear hk); (try clear hi)))
                   go_ret
                   exact ⟨by first | rfl | (simp [errW_none, errW_some] <;> rfl) | (simp only [← hji125]; first | rfl | (simp [errW_none, errW_some] <;> rfl)) | (simp [*, errW_none, errW_some] <;> rfl), uB⟩
                 ·rw [if_neg c130] at H
                  replace c130 := decide_eq_false c130
                  obtain rfl := Option.some.inj H
                  obtain ⟨Ao138, co138, eo138⟩ := Kd.R_slice HO_7.out
                  subst eo138
                  have p647 : 0 ≤ ((ji125) : Int) := of_decide_eq_true (by first | (with_reducible assumption) | assumption)
                  have q647 : (ji125) < (l2.length : Int) := of_decide_eq_true (by first | (with_reducible assumption) | assumption)
                  obtain ⟨ad647, e647, hx647_0⟩ := Kd.at_int HR2.out (ji125) p647 q647
                  cases e647
                  replace hx647_0 := hcell HB.out hx647_0
                  replace p647 := eq_true p647
                  replace q647 := eq_true q647
                  try go_wp2
                  replace HO_7 := Aside0.mk (Kd.R_drew HO_7.out)
                  replace BK623 := Aside0.mk (blk_drew BK623.out)
                  replace HB := Aside0.mk (below_drew1 HB.out)
                  have p648 : 0 ≤ ((ji125) : Int) := of_decide_eq_true (by first | (with_reducible assumption) | assumption)
                  have q648 : (ji125) < (l0_2.length : Int) := of_decide_eq_true (by first | (with_reducible assumption) | assumption)
                  obtain ⟨ad648, e648, hx648_0, hx648_1⟩ := at_T23 HR0_2.out (ji125) p648 q648
                  have hw648_1 := hx648_1
                  have hw648_0 := hx648_0
                  cases e648
                  replace hx648_0 := hcell HB.out hx648_0
                  replace hx648_1 := hcell HB.out hx648_1
                  replace p648 := eq_true p648
                  replace q648 := eq_true q648
                  have p649 : 0 ≤ ((ji125) : Int) := of_decide_eq_true (by first | (with_reducible assumption) | assumption)
                  have q649 : (ji125) < (l0_2.length : Int) := of_decide_eq_true (by first | (with_reducible assumption) | assumption)
                  obtain ⟨ad649, e649, hx649_0, hx649_1⟩ := at_T23 HR0_2.out (ji125) p649 q649
                  have hw649_1 := hx649_1
                  have hw649_0 := hx649_0
                  obtain rfl : ad648 = ad649 := (by injection e649)
                  replace hx649_0 := hcell HB.out hx649_0
                  replace hx649_1 := hcell HB.out hx649_1
                  replace p649 := eq_true p649
                  replace q649 := eq_true q649
                  refine start_ (n := 22) (S := fun w' => w'.cell? ⟨gb623, 0, none⟩ = some (.int .i64 a0_0) ∧ w'.cell? ⟨gb623, 1, none⟩ = some (.int .i64 a0_1) ∧ w'.cell? ⟨gb623, 2, none⟩ = some (.slice (some ad648) l0_2.length c0_2) ∧ w'.cell? ⟨gb623, 3, none⟩ = some (.slice A0_3 l0_3.length c0_3) ∧ w'.cell? (ad648.add (((ji125)).toNat * 2)) = some (.int .i64 ((rd_T23 l0_2 (ji125)).f0)) ∧ w'.cell? ⟨(ad648.add (((ji125)).toNat * 2)).block, (ad648.add (((ji125)).toNat * 2)).off + 1, none⟩ = some (.int .i64 ((rd_T23 l0_2 (ji125)).f1)) ∧ w'.cell? (ad648.add (((ji125)).toNat * 2)) = some (.int .i64 ((rd_T23 l0_2 (ji125)).f0)) ∧ w'.cell? ⟨(ad648.add (((ji125)).toNat * 2)).block, (ad648.add (((ji125)).toNat * 2)).off + 1, none⟩ = some (.int .i64 ((rd_T23 l0_2 (ji125)).f1))) (ds := []) (bl 22 0) (by kernel_rfl) rfl rfl ⟨(blk_cell BK623.out 0).trans rfl, (blk_cell BK623.out 1).trans rfl, (blk_cell BK623.out 2).trans rfl, (blk_cell BK623.out 3).trans rfl, (hcell HB.out hw648_0), (hcell HB.out hw648_1), (hcell HB.out hw649_0), (hcell HB.out hw649_1)⟩ (fun hHeld => ?_); refine with_tabW quinarialaw02_ChannelHeights.tab16 quinarialaw02_ChannelHeights.bits16 (fun HT_ HW_ => ?_)
                  generalize wr.drew = w139 at HO_7 BK623 HB hx648_0 hx648_1 hx649_0 hx649_1 hHeld ⊢
                  refine pu 0 144 22 1 ?_
                  refine pu 1 145 22 3 ?_
                  refine pu 3 147 22 11 ?_
                  refine pu 5 149 22 43 ?_
                  refine pu 10 154 22 1067 ?_
                  refine pu 11 155 22 3115 ?_
                  refine pu 13 157 22 11307 ?_
                  refine pu 15 159 22 44075 ?_
                  refine tk8 2 146 22 44079 hHeld ?_
                  refine tk8 4 148 22 44095 hHeld ?_
                  refine pu 6 150 22 44159 ?_
                  refine pu 7 151 22 44287 ?_
                  refine tk8 8 152 22 44543 hHeld ?_
                  refine pu 9 153 22 45055 ?_
                  refine pu 20 17 22 1093631 ?_
                  refine tk8 12 156 22 1097727 hHeld ?_
                  refine tk8 14 158 22 1114111 hHeld ?_
                  refine pu 16 160 22 1179647 ?_
                  refine pu 17 161 22 1310719 ?_
                  refine tk8 18 162 22 1572863 hHeld ?_
                  refine pu 19 163 22 2097151 ?_
                  refine pu 21 18 22 4194303 ?_
                  refine done_ (done_of HT_.out (by kernel_rfl)) ?_
                  try go_wp2
                  go_ret
                  exact ⟨by first | rfl | (simp [errW_none, errW_some] <;> rfl) | (simp only [← hji125]; first | rfl | (simp [errW_none, errW_some] <;> rfl)) | (simp [*, errW_none, errW_some] <;> rfl), uB⟩
                ·as_aux_lemma =>
                  rw [if_neg c129] at H
                  have c129b0 : (t632 == 2) = false := beq_eq_false_iff_ne.mpr c129
                  have c129b1 : (t632 != 2) = true := bne_iff_ne.mpr c129
                  by_cases c140 : t632 = 3
                  ·rw [if_pos c140] at H
                   have c140b0 : (t632 == 3) = true := beq_iff_eq.mpr c140
                   have c140b1 : (t632 != 3) = false := bne_eq_false_iff_eq.mpr c140
                   clear c140
                   by_cases c141 : ((decide (a1 > (rd l2 (ji125)))) == (t632 == 3)) = true
                   ·rw [if_pos c141] at H
                    have c141b0 : ((decide (a1 > (rd l2 (ji125)))) == (t632 == 3)) = true := c141
                    (try (have c141b1 : decide ((decide (a1 > (rd l2 (ji125)))) = (t632 == 3)) = true := by simpa using c141))
                    (try (have c141b2 : ((decide (a1 > (rd l2 (ji125)))) == (t632 == 3)) = true := by simpa using c141))
                    clear c141
                    have c141d := c141b0
                    rw [c140b0] at c141d
                    have c141e : decide (rd l2 (ji125) < a1) = true := by simpa using c141d
                    have c141p : (rd l2 (ji125) < a1) = True := eq_true (of_decide_eq_true c141e)
                    clear c141d
                    replace H := Option.bind_eq_some_iff.mp H
                    obtain ⟨t651, A1420, H⟩ := H
                    replace H : (some t651) = some r := H
                    have A142 := Aside0.mk A1420
                    clear A1420
                    obtain rfl := Option.some.inj H
                    obtain ⟨Ao143, co143, eo143⟩ := Kd.R_slice HO_7.out
                    subst eo143
                    have p647 : 0 ≤ ((ji125) : Int) := of_decide_eq_true (by first | (with_reducible assumption) | assumption)
                    have q647 : (ji125) < (l2.length : Int) := of_decide_eq_true (by first | (with_reducible assumption) | assumption)
                    obtain ⟨ad647, e647, hx647_0⟩ := Kd.at_int HR2.out (ji125) p647 q647
                    cases e647
                    replace hx647_0 := hcell HB.out hx647_0
                    replace p647 := eq_true p647
                    replace q647 := eq_true q647
                    try go_wp2
                    replace HO_7 := Aside0.mk (Kd.R_drew HO_7.out)
                    replace BK623 := Aside0.mk (blk_drew BK623.out)
                    replace HB := Aside0.mk (below_drew1 HB.out)
                    have p648 : 0 ≤ ((ji125) : Int) := of_decide_eq_true (by first | (with_reducible assumption) | assumption)
                    have q648 : (ji125) < (l0_2.length : Int) := of_decide_eq_true (by first | (with_reducible assumption) | assumption)
                    obtain ⟨ad648, e648, hx648_0, hx648_1⟩ := at_T23 HR0_2.out (ji125) p648 q648
                    have hw648_1 := hx648_1
                    have hw648_0 := hx648_0
                    cases e648
                    replace hx648_0 := hcell HB.out hx648_0
                    replace hx648_1 := hcell HB.out hx648_1
                    replace p648 := eq_true p648
                    replace q648 := eq_true q648
                    have p649 : 0 ≤ ((ji125) : Int) := of_decide_eq_true (by first | (with_reducible assumption) | assumption)
                    have q649 : (ji125) < (l0_2.length : Int) := of_decide_eq_true (by first | (with_reducible assumption) | assumption)
                    obtain ⟨ad649, e649, hx649_0, hx649_1⟩ := at_T23 HR0_2.out (ji125) p649 q649
                    have hw649_1 := hx649_1
                    have hw649_0 := hx649_0
                    obtain rfl : ad648 = ad649 := (by injection e649)
                    replace hx649_0 := hcell HB.out hx649_0
                    replace hx649_1 := hcell HB.out hx649_1
                    replace p649 := eq_true p649
                    replace q649 := eq_true q649
                    refine start_ (n := 22) (S := fun w' => w'.cell? ⟨gb623, 0, none⟩ = some (.int .i64 a0_0) ∧ w'.cell? ⟨gb623, 1, none⟩ = some (.int .i64 a0_1) ∧ w'.cell? ⟨gb623, 2, none⟩ = some (.slice (some ad648) l0_2.length c0_2) ∧ w'.cell? ⟨gb623, 3, none⟩ = some (.slice A0_3 l0_3.length c0_3) ∧ w'.cell? (ad648.add (((ji125)).toNat * 2)) = some (.int .i64 ((rd_T23 l0_2 (ji125)).f0)) ∧ w'.cell? ⟨(ad648.add (((ji125)).toNat * 2)).block, (ad648.add (((ji125)).toNat * 2)).off + 1, none⟩ = some (.int .i64 ((rd_T23 l0_2 (ji125)).f1)) ∧ w'.cell? (ad648.add (((ji125)).toNat * 2)) = some (.int .i64 ((rd_T23 l0_2 (ji125)).f0)) ∧ w'.cell? ⟨(ad648.add (((ji125)).toNat * 2)).block, (ad648.add (((ji125)).toNat * 2)).off + 1, none⟩ = some (.int .i64 ((rd_T23 l0_2 (ji125)).f1))) (ds := []) (bl 22 0) (by kernel_rfl) rfl rfl ⟨(blk_cell BK623.out 0).trans rfl, (blk_cell BK623.out 1).trans rfl, (blk_cell BK623.out 2).trans rfl, (blk_cell BK623.out 3).trans rfl, (hcell HB.out hw648_0), (hcell HB.out hw648_1), (hcell HB.out hw649_0), (hcell HB.out hw649_1)⟩ (fun hHeld => ?_); refine with_tabW quinarialaw02_ChannelHeights.tab16 quinarialaw02_ChannelHeights.bits16 (fun HT_ HW_ => ?_)
                    generalize wr.drew = w144 at HO_7 BK623 HB hx648_0 hx648_1 hx649_0 hx649_1 hHeld ⊢
                    refine pu 0 144 22 1 ?_
                    refine pu 1 145 22 3 ?_
                    refine pu 3 147 22 11 ?_
                    refine pu 5 149 22 43 ?_
                    refine pu 10 154 22 1067 ?_
                    refine pu 11 155 22 3115 ?_
                    refine pu 13 157 22 11307 ?_
                    refine pu 15 159 22 44075 ?_
                    refine tk8 2 146 22 44079 hHeld ?_
                    refine tk8 4 148 22 44095 hHeld ?_
                    refine pu 6 150 22 44159 ?_
                    refine pu 7 151 22 44287 ?_
                    refine tk8 8 152 22 44543 hHeld ?_
                    refine pu 9 153 22 45055 ?_
                    refine pu 20 17 22 1093631 ?_
                    refine tk8 12 156 22 1097727 hHeld ?_
                    refine tk8 14 158 22 1114111 hHeld ?_
                    refine pu 16 160 22 1179647 ?_
                    refine pu 17 161 22 1310719 ?_
                    refine tk8 18 162 22 1572863 hHeld ?_
                    refine pu 19 163 22 2097151 ?_
                    refine pu 21 18 22 4194303 ?_
                    refine done_ (done_of HT_.out (by kernel_rfl)) ?_
                    try go_wp2_with (first | (go_at_call 14; (with_reducible refine (quinarialaw02_known.calls k3  t651 _ ?sideT A142.out).mono ?_); (case sideT => exact HT.out.below uB); rintro e w145 ⟨rfl, hb⟩; replace HO_7 := Aside0.mk (Kd.R_below (uR HO_7.out) hb); replace BK623 := Aside0.mk (blk_below (uK BK623.out) hb); replace HB := Aside0.mk (below_step uB hb); (try clear hb); (try clear hb2); (try clear hk); (try clear hi)))
                    go_ret
                    exact ⟨by first | rfl | (simp [errW_none, errW_some] <;> rfl) | (simp only [← hji125]; first | rfl | (simp [errW_none, errW_some] <;> rfl)) | (simp [*, errW_none, errW_some] <;> rfl), uB⟩
                   ·rw [if_neg c141] at H
                    have c141b0 : ((decide (a1 > (rd l2 (ji125)))) == (t632 == 3)) = false := by simpa using c141
                    (try (have c141b1 : decide ((decide (a1 > (rd l2 (ji125)))) = (t632 == 3)) = false := by simpa using c141))
                    (try (have c141b2 : ((decide (a1 > (rd l2 (ji125)))) == (t632 == 3)) = false := by simpa using c141))
                    (try (have c141b3 : ¬ ((decide (a1 > (rd l2 (ji125)))) = (t632 == 3)) := by simpa using c141))
                    clear c141
                    have c141d := c141b0
                    rw [c140b0] at c141d
                    have c141e : decide (rd l2 (ji125) < a1) = false := by simpa using c141d
                    have c141p : (rd l2 (ji125) < a1) = False := eq_false (of_decide_eq_false c141e)
                    clear c141d
                    obtain rfl := Option.some.inj H
                    obtain ⟨Ao146, co146, eo146⟩ := Kd.R_slice HO_7.out
                    subst eo146
                    have p647 : 0 ≤ ((ji125) : Int) := of_decide_eq_true (by first | (with_reducible assumption) | assumption)
                    have q647 : (ji125) < (l2.length : Int) := of_decide_eq_true (by first | (with_reducible assumption) | assumption)
                    obtain ⟨ad647, e647, hx647_0⟩ := Kd.at_int HR2.out (ji125) p647 q647
                    cases e647
                    replace hx647_0 := hcell HB.out hx647_0
                    replace p647 := eq_true p647
                    replace q647 := eq_true q647
                    try go_wp2
                    replace HO_7 := Aside0.mk (Kd.R_drew HO_7.out)
                    replace BK623 := Aside0.mk (blk_drew BK623.out)
                    replace HB := Aside0.mk (below_drew1 HB.out)
                    have p648 : 0 ≤ ((ji125) : Int) := of_decide_eq_true (by first | (with_reducible assumption) | assumption)
                    have q648 : (ji125) < (l0_2.length : Int) := of_decide_eq_true (by first | (with_reducible assumption) | assumption)
                    obtain ⟨ad648, e648, hx648_0, hx648_1⟩ := at_T23 HR0_2.out (ji125) p648 q648
                    have hw648_1 := hx648_1
                    have hw648_0 := hx648_0
                    cases e648
                    replace hx648_0 := hcell HB.out hx648_0
                    replace hx648_1 := hcell HB.out hx648_1
                    replace p648 := eq_true p648
                    replace q648 := eq_true q648
                    have p649 : 0 ≤ ((ji125) : Int) := of_decide_eq_true (by first | (with_reducible assumption) | assumption)
                    have q649 : (ji125) < (l0_2.length : Int) := of_decide_eq_true (by first | (with_reducible assumption) | assumption)
                    obtain ⟨ad649, e649, hx649_0, hx649_1⟩ := at_T23 HR0_2.out (ji125) p649 q649
                    have hw649_1 := hx649_1
                    have hw649_0 := hx649_0
                    obtain rfl : ad648 = ad649 := (by injection e649)
                    replace hx649_0 := hcell HB.out hx649_0
                    replace hx649_1 := hcell HB.out hx649_1
                    replace p649 := eq_true p649
                    replace q649 := eq_true q649
                    refine start_ (n := 22) (S := fun w' => w'.cell? ⟨gb623, 0, none⟩ = some (.int .i64 a0_0) ∧ w'.cell? ⟨gb623, 1, none⟩ = some (.int .i64 a0_1) ∧ w'.cell? ⟨gb623, 2, none⟩ = some (.slice (some ad648) l0_2.length c0_2) ∧ w'.cell? ⟨gb623, 3, none⟩ = some (.slice A0_3 l0_3.length c0_3) ∧ w'.cell? (ad648.add (((ji125)).toNat * 2)) = some (.int .i64 ((rd_T23 l0_2 (ji125)).f0)) ∧ w'.cell? ⟨(ad648.add (((ji125)).toNat * 2)).block, (ad648.add (((ji125)).toNat * 2)).off + 1, none⟩ = some (.int .i64 ((rd_T23 l0_2 (ji125)).f1)) ∧ w'.cell? (ad648.add (((ji125)).toNat * 2)) = some (.int .i64 ((rd_T23 l0_2 (ji125)).f0)) ∧ w'.cell? ⟨(ad648.add (((ji125)).toNat * 2)).block, (ad648.add (((ji125)).toNat * 2)).off + 1, none⟩ = some (.int .i64 ((rd_T23 l0_2 (ji125)).f1))) (ds := []) (bl 22 0) (by kernel_rfl) rfl rfl ⟨(blk_cell BK623.out 0).trans rfl, (blk_cell BK623.out 1).trans rfl, (blk_cell BK623.out 2).trans rfl, (blk_cell BK623.out 3).trans rfl, (hcell HB.out hw648_0), (hcell HB.out hw648_1), (hcell HB.out hw649_0), (hcell HB.out hw649_1)⟩ (fun hHeld => ?_); refine with_tabW quinarialaw02_ChannelHeights.tab16 quinarialaw02_ChannelHeights.bits16 (fun HT_ HW_ => ?_)
                    generalize wr.drew = w147 at HO_7 BK623 HB hx648_0 hx648_1 hx649_0 hx649_1 hHeld ⊢
                    refine pu 0 144 22 1 ?_
                    refine pu 1 145 22 3 ?_
                    refine pu 3 147 22 11 ?_
                    refine pu 5 149 22 43 ?_
                    refine pu 10 154 22 1067 ?_
                    refine pu 11 155 22 3115 ?_
                    refine pu 13 157 22 11307 ?_
                    refine pu 15 159 22 44075 ?_
                    refine tk8 2 146 22 44079 hHeld ?_
                    refine tk8 4 148 22 44095 hHeld ?_
                    refine pu 6 150 22 44159 ?_
                    refine pu 7 151 22 44287 ?_
                    refine tk8 8 152 22 44543 hHeld ?_
                    refine pu 9 153 22 45055 ?_
                    refine pu 20 17 22 1093631 ?_
                    refine tk8 12 156 22 1097727 hHeld ?_
                    refine tk8 14 158 22 1114111 hHeld ?_
                    refine pu 16 160 22 1179647 ?_
                    refine pu 17 161 22 1310719 ?_
                    refine tk8 18 162 22 1572863 hHeld ?_
                    refine pu 19 163 22 2097151 ?_
                    refine pu 21 18 22 4194303 ?_
                    refine done_ (done_of HT_.out (by kernel_rfl)) ?_
                    try go_wp2
                    go_ret
                    exact ⟨by first | rfl | (simp [errW_none, errW_some] <;> rfl) | (simp only [← hji125]; first | rfl | (simp [errW_none, errW_some] <;> rfl)) | (simp [*, errW_none, errW_some] <;> rfl), uB⟩
                  ·rw [if_neg c140] at H
                   have c140b0 : (t632 == 3) = false := beq_eq_false_iff_ne.mpr c140
                   have c140b1 : (t632 != 3) = true := bne_iff_ne.mpr c140
                   by_cases c148 : t632 = 1
                   ·rw [if_pos c148] at H
                    have c148b0 : (t632 == 1) = true := beq_iff_eq.mpr c148
                    have c148b1 : (t632 != 1) = false := bne_eq_false_iff_eq.mpr c148
                    clear c148
                    by_cases c149 : ((decide (a1 > (rd l2 (ji125)))) == (t632 == 3)) = true
                    ·rw [if_pos c149] at H
                     have c149b0 : ((decide (a1 > (rd l2 (ji125)))) == (t632 == 3)) = true := c149
                     (try (have c149b1 : decide ((decide (a1 > (rd l2 (ji125)))) = (t632 == 3)) = true := by simpa using c149))
                     (try (have c149b2 : ((decide (a1 > (rd l2 (ji125)))) == (t632 == 3)) = true := by simpa using c149))
                     clear c149
                     have c149d := c149b0
                     rw [c140b0] at c149d
                     have c149e : decide (rd l2 (ji125) < a1) = false := by simpa using c149d
                     have c149p : (rd l2 (ji125) < a1) = False := eq_false (of_decide_eq_false c149e)
                     clear c149d
                     replace H := Option.bind_eq_some_iff.mp H
                     obtain ⟨t652, A1500, H⟩ := H
                     replace H : (some t652) = some r := H
                     have A150 := Aside0.mk A1500
                     clear A1500
                     obtain rfl := Option.some.inj H
                     obtain ⟨Ao151, co151, eo151⟩ := Kd.R_slice HO_7.out
                     subst eo151
                     have p647 : 0 ≤ ((ji125) : Int) := of_decide_eq_true (by first | (with_reducible assumption) | assumption)
                     have q647 : (ji125) < (l2.length : Int) := of_decide_eq_true (by first | (with_reducible assumption) | assumption)
                     obtain ⟨ad647, e647, hx647_0⟩ := Kd.at_int HR2.out (ji125) p647 q647
                     cases e647
                     replace hx647_0 := hcell HB.out hx647_0
                     replace p647 := eq_true p647
                     replace q647 := eq_true q647
                     try go_wp2
                     replace HO_7 := Aside0.mk (Kd.R_drew HO_7.out)
                     replace BK623 := Aside0.mk (blk_drew BK623.out)
                     replace HB := Aside0.mk (below_drew1 HB.out)
                     have p648 : 0 ≤ ((ji125) : Int) := of_decide_eq_true (by first | (with_reducible assumption) | assumption)
                     have q648 : (ji125) < (l0_2.length : Int) := of_decide_eq_true (by first | (with_reducible assumption) | assumption)
                     obtain ⟨ad648, e648, hx648_0, hx648_1⟩ := at_T23 HR0_2.out (ji125) p648 q648
                     have hw648_1 := hx648_1
                     have hw648_0 := hx648_0
                     cases e648
                     replace hx648_0 := hcell HB.out hx648_0
                     replace hx648_1 := hcell HB.out hx648_1
                     replace p648 := eq_true p648
                     replace q648 := eq_true q648
                     have p649 : 0 ≤ ((ji125) : Int) := of_decide_eq_true (by first | (with_reducible assumption) | assumption)
                     have q649 : (ji125) < (l0_2.length : Int) := of_decide_eq_true (by first | (with_reducible assumption) | assumption)
                     obtain ⟨ad649, e649, hx649_0, hx649_1⟩ := at_T23 HR0_2.out (ji125) p649 q649
                     have hw649_1 := hx649_1
                     have hw649_0 := hx649_0
                     obtain rfl : ad648 = ad649 := (by injection e649)
                     replace hx649_0 := hcell HB.out hx649_0
                     replace hx649_1 := hcell HB.out hx649_1
                     replace p649 := eq_true p649
                     replace q649 := eq_true q649
                     refine start_ (n := 22) (S := fun w' => w'.cell? ⟨gb623, 0, none⟩ = some (.int .i64 a0_0) ∧ w'.cell? ⟨gb623, 1, none⟩ = some (.int .i64 a0_1) ∧ w'.cell? ⟨gb623, 2, none⟩ = some (.slice (some ad648) l0_2.length c0_2) ∧ w'.cell? ⟨gb623, 3, none⟩ = some (.slice A0_3 l0_3.length c0_3) ∧ w'.cell? (ad648.add (((ji125)).toNat * 2)) = some (.int .i64 ((rd_T23 l0_2 (ji125)).f0)) ∧ w'.cell? ⟨(ad648.add (((ji125)).toNat * 2)).block, (ad648.add (((ji125)).toNat * 2)).off + 1, none⟩ = some (.int .i64 ((rd_T23 l0_2 (ji125)).f1)) ∧ w'.cell? (ad648.add (((ji125)).toNat * 2)) = some (.int .i64 ((rd_T23 l0_2 (ji125)).f0)) ∧ w'.cell? ⟨(ad648.add (((ji125)).toNat * 2)).block, (ad648.add (((ji125)).toNat * 2)).off + 1, none⟩ = some (.int .i64 ((rd_T23 l0_2 (ji125)).f1))) (ds := []) (bl 22 0) (by kernel_rfl) rfl rfl ⟨(blk_cell BK623.out 0).trans rfl, (blk_cell BK623.out 1).trans rfl, (blk_cell BK623.out 2).trans rfl, (blk_cell BK623.out 3).trans rfl, (hcell HB.out hw648_0), (hcell HB.out hw648_1), (hcell HB.out hw649_0), (hcell HB.out hw649_1)⟩ (fun hHeld => ?_); refine with_tabW quinarialaw02_ChannelHeights.tab16 quinarialaw02_ChannelHeights.bits16 (fun HT_ HW_ => ?_)
                     generalize wr.drew = w152 at HO_7 BK623 HB hx648_0 hx648_1 hx649_0 hx649_1 hHeld ⊢
                     refine pu 0 144 22 1 ?_
                     refine pu 1 145 22 3 ?_
                     refine pu 3 147 22 11 ?_
                     refine pu 5 149 22 43 ?_
                     refine pu 10 154 22 1067 ?_
                     refine pu 11 155 22 3115 ?_
                     refine pu 13 157 22 11307 ?_
                     refine pu 15 159 22 44075 ?_
                     refine tk8 2 146 22 44079 hHeld ?_
                     refine tk8 4 148 22 44095 hHeld ?_
                     refine pu 6 150 22 44159 ?_
                     refine pu 7 151 22 44287 ?_
                     refine tk8 8 152 22 44543 hHeld ?_
                     refine pu 9 153 22 45055 ?_
                     refine pu 20 17 22 1093631 ?_
                     refine tk8 12 156 22 1097727 hHeld ?_
                     refine tk8 14 158 22 1114111 hHeld ?_
                     refine pu 16 160 22 1179647 ?_
                     refine pu 17 161 22 1310719 ?_
                     refine tk8 18 162 22 1572863 hHeld ?_
                     refine pu 19 163 22 2097151 ?_
                     refine pu 21 18 22 4194303 ?_
                     refine done_ (done_of HT_.out (by kernel_rfl)) ?_
                     try go_wp2_with (first | (go_at_call 14; (with_reducible refine (quinarialaw02_known.calls k3  t652 _ ?sideT A150.out).mono ?_); (case sideT => exact HT.out.below uB); rintro e w153 ⟨rfl, hb⟩; replace HO_7 := Aside0.mk (Kd.R_below (uR HO_7.out) hb); replace BK623 := Aside0.mk (blk_below (uK BK623.out) hb); replace HB := Aside0.mk (below_step uB hb); (try clear hb); (try clear hb2); (try clear hk); (try clear hi)))
                     go_ret
                     exact ⟨by first | rfl | (simp [errW_none, errW_some] <;> rfl) | (simp only [← hji125]; first | rfl | (simp [errW_none, errW_some] <;> rfl)) | (simp [*, errW_none, errW_some] <;> rfl), uB⟩
                    ·rw [if_neg c149] at H
                     have c149b0 : ((decide (a1 > (rd l2 (ji125)))) == (t632 == 3)) = false := by simpa using c149
                     (try (have c149b1 : decide ((decide (a1 > (rd l2 (ji125)))) = (t632 == 3)) = false := by simpa using c149))
                     (try (have c149b2 : ((decide (a1 > (rd l2 (ji125)))) == (t632 == 3)) = false := by simpa using c149))
                     (try (have c149b3 : ¬ ((decide (a1 > (rd l2 (ji125)))) = (t632 == 3)) := by simpa using c149))
                     clear c149
                     have c149d := c149b0
                     rw [c140b0] at c149d
                     have c149e : decide (rd l2 (ji125) < a1) = true := by simpa using c149d
                     have c149p : (rd l2 (ji125) < a1) = True := eq_true (of_decide_eq_true c149e)
                     clear c149d
                     obtain rfl := Option.some.inj H
                     obtain ⟨Ao154, co154, eo154⟩ := Kd.R_slice HO_7.out
                     subst eo154
                     have p647 : 0 ≤ ((ji125) : Int) := of_decide_eq_true (by first | (with_reducible assumption) | assumption)
                     have q647 : (ji125) < (l2.length : Int) := of_decide_eq_true (by first | (with_reducible assumption) | assumption)
                     obtain ⟨ad647, e647, hx647_0⟩ := Kd.at_int HR2.out (ji125) p647 q647
                     cases e647
                     replace hx647_0 := hcell HB.out hx647_0
                     replace p647 := eq_true p647
                     replace q647 := eq_true q647
                     try go_wp2
                     replace HO_7 := Aside0.mk (Kd.R_drew HO_7.out)
                     replace BK623 := Aside0.mk (blk_drew BK623.out)
                     replace HB := Aside0.mk (below_drew1 HB.out)
                     have p648 : 0 ≤ ((ji125) : Int) := of_decide_eq_true (by first | (with_reducible assumption) | assumption)
                     have q648 : (ji125) < (l0_2.length : Int) := of_decide_eq_true (by first | (with_reducible assumption) | assumption)
                     obtain ⟨ad648, e648, hx648_0, hx648_1⟩ := at_T23 HR0_2.out (ji125) p648 q648
                     have hw648_1 := hx648_1
                     have hw648_0 := hx648_0
                     cases e648
                     replace hx648_0 := hcell HB.out hx648_0
                     replace hx648_1 := hcell HB.out hx648_1
                     replace p648 := eq_true p648
                     replace q648 := eq_true q648
                     have p649 : 0 ≤ ((ji125) : Int) := of_decide_eq_true (by first | (with_reducible assumption) | assumption)
                     have q649 : (ji125) < (l0_2.length : Int) := of_decide_eq_true (by first | (with_reducible assumption) | assumption)
                     obtain ⟨ad649, e649, hx649_0, hx649_1⟩ := at_T23 HR0_2.out (ji125) p649 q649
                     have hw649_1 := hx649_1
                     have hw649_0 := hx649_0
                     obtain rfl : ad648 = ad649 := (by injection e649)
                     replace hx649_0 := hcell HB.out hx649_0
                     replace hx649_1 := hcell HB.out hx649_1
                     replace p649 := eq_true p649
                     replace q649 := eq_true q649
                     refine start_ (n := 22) (S := fun w' => w'.cell? ⟨gb623, 0, none⟩ = some (.int .i64 a0_0) ∧ w'.cell? ⟨gb623, 1, none⟩ = some (.int .i64 a0_1) ∧ w'.cell? ⟨gb623, 2, none⟩ = some (.slice (some ad648) l0_2.length c0_2) ∧ w'.cell? ⟨gb623, 3, none⟩ = some (.slice A0_3 l0_3.length c0_3) ∧ w'.cell? (ad648.add (((ji125)).toNat * 2)) = some (.int .i64 ((rd_T23 l0_2 (ji125)).f0)) ∧ w'.cell? ⟨(ad648.add (((ji125)).toNat * 2)).block, (ad648.add (((ji125)).toNat * 2)).off + 1, none⟩ = some (.int .i64 ((rd_T23 l0_2 (ji125)).f1)) ∧ w'.cell? (ad648.add (((ji125)).toNat * 2)) = some (.int .i64 ((rd_T23 l0_2 (ji125)).f0)) ∧ w'.cell? ⟨(ad648.add (((ji125)).toNat * 2)).block, (ad648.add (((ji125)).toNat * 2)).off + 1, none⟩ = some (.int .i64 ((rd_T23 l0_2 (ji125)).f1))) (ds := []) (bl 22 0) (by kernel_rfl) rfl rfl ⟨(blk_cell BK623.out 0).trans rfl, (blk_cell BK623.out 1).trans rfl, (blk_cell BK623.out 2).trans rfl, (blk_cell BK623.out 3).trans rfl, (hcell HB.out hw648_0), (hcell HB.out hw648_1), (hcell HB.out hw649_0), (hcell HB.out hw649_1)⟩ (fun hHeld => ?_); refine with_tabW quinarialaw02_ChannelHeights.tab16 quinarialaw02_ChannelHeights.bits16 (fun HT_ HW_ => ?_)
                     generalize wr.drew = w155 at HO_7 BK623 HB hx648_0 hx648_1 hx649_0 hx649_1 hHeld ⊢
                     refine pu 0 144 22 1 ?_
                     refine pu 1 145 22 3 ?_
                     refine pu 3 147 22 11 ?_
                     refine pu 5 149 22 43 ?_
                     refine pu 10 154 22 1067 ?_
                     refine pu 11 155 22 3115 ?_
                     refine pu 13 157 22 11307 ?_
                     refine pu 15 159 22 44075 ?_
                     refine tk8 2 146 22 44079 hHeld ?_
                     refine tk8 4 148 22 44095 hHeld ?_
                     refine pu 6 150 22 44159 ?_
                     refine pu 7 151 22 44287 ?_
                     refine tk8 8 152 22 44543 hHeld ?_
                     refine pu 9 153 22 45055 ?_
                     refine pu 20 17 22 1093631 ?_
                     refine tk8 12 156 22 1097727 hHeld ?_
                     refine tk8 14 158 22 1114111 hHeld ?_
                     refine pu 16 160 22 1179647 ?_
                     refine pu 17 161 22 1310719 ?_
                     refine tk8 18 162 22 1572863 hHeld ?_
                     refine pu 19 163 22 2097151 ?_
                     refine pu 21 18 22 4194303 ?_
                     refine done_ (done_of HT_.out (by kernel_rfl)) ?_
                     try go_wp2
                     go_ret
                     exact ⟨by first | rfl | (simp [errW_none, errW_some] <;> rfl) | (simp only [← hji125]; first | rfl | (simp [errW_none, errW_some] <;> rfl)) | (simp [*, errW_none, errW_some] <;> rfl), uB⟩
                   ·rw [if_neg c148] at H
                    have c148b0 : (t632 == 1) = false := beq_eq_false_iff_ne.mpr c148
                    have c148b1 : (t632 != 1) = true := bne_iff_ne.mpr c148
                    obtain rfl := Option.some.inj H
                    obtain ⟨Ao156, co156, eo156⟩ := Kd.R_slice HO_7.out
                    subst eo156
                    have p647 : 0 ≤ ((ji125) : Int) := of_decide_eq_true (by first | (with_reducible assumption) | assumption)
                    have q647 : (ji125) < (l2.length : Int) := of_decide_eq_true (by first | (with_reducible assumption) | assumption)
                    obtain ⟨ad647, e647, hx647_0⟩ := Kd.at_int HR2.out (ji125) p647 q647
                    cases e647
                    replace hx647_0 := hcell HB.out hx647_0
                    replace p647 := eq_true p647
                    replace q647 := eq_true q647
                    try go_wp2
                    replace HO_7 := Aside0.mk (Kd.R_drew HO_7.out)
                    replace BK623 := Aside0.mk (blk_drew BK623.out)
                    replace HB := Aside0.mk (below_drew1 HB.out)
                    have p648 : 0 ≤ ((ji125) : Int) := of_decide_eq_true (by first | (with_reducible assumption) | assumption)
                    have q648 : (ji125) < (l0_2.length : Int) := of_decide_eq_true (by first | (with_reducible assumption) | assumption)
                    obtain ⟨ad648, e648, hx648_0, hx648_1⟩ := at_T23 HR0_2.out (ji125) p648 q648
                    have hw648_1 := hx648_1
                    have hw648_0 := hx648_0
                    cases e648
                    replace hx648_0 := hcell HB.out hx648_0
                    replace hx648_1 := hcell HB.out hx648_1
                    replace p648 := eq_true p648
                    replace q648 := eq_true q648
                    have p649 : 0 ≤ ((ji125) : Int) := of_decide_eq_true (by first | (with_reducible assumption) | assumption)
                    have q649 : (ji125) < (l0_2.length : Int) := of_decide_eq_true (by first | (with_reducible assumption) | assumption)
                    obtain ⟨ad649, e649, hx649_0, hx649_1⟩ := at_T23 HR0_2.out (ji125) p649 q649
                    have hw649_1 := hx649_1
                    have hw649_0 := hx649_0
                    obtain rfl : ad648 = ad649 := (by injection e649)
                    replace hx649_0 := hcell HB.out hx649_0
                    replace hx649_1 := hcell HB.out hx649_1
                    replace p649 := eq_true p649
                    replace q649 := eq_true q649
                    refine start_ (n := 22) (S := fun w' => w'.cell? ⟨gb623, 0, none⟩ = some (.int .i64 a0_0) ∧ w'.cell? ⟨gb623, 1, none⟩ = some (.int .i64 a0_1) ∧ w'.cell? ⟨gb623, 2, none⟩ = some (.slice (some ad648) l0_2.length c0_2) ∧ w'.cell? ⟨gb623, 3, none⟩ = some (.slice A0_3 l0_3.length c0_3) ∧ w'.cell? (ad648.add (((ji125)).toNat * 2)) = some (.int .i64 ((rd_T23 l0_2 (ji125)).f0)) ∧ w'.cell? ⟨(ad648.add (((ji125)).toNat * 2)).block, (ad648.add (((ji125)).toNat * 2)).off + 1, none⟩ = some (.int .i64 ((rd_T23 l0_2 (ji125)).f1)) ∧ w'.cell? (ad648.add (((ji125)).toNat * 2)) = some (.int .i64 ((rd_T23 l0_2 (ji125)).f0)) ∧ w'.cell? ⟨(ad648.add (((ji125)).toNat * 2)).block, (ad648.add (((ji125)).toNat * 2)).off + 1, none⟩ = some (.int .i64 ((rd_T23 l0_2 (ji125)).f1))) (ds := []) (bl 22 0) (by kernel_rfl) rfl rfl ⟨(blk_cell BK623.out 0).trans rfl, (blk_cell BK623.out 1).trans rfl, (blk_cell BK623.out 2).trans rfl, (blk_cell BK623.out 3).trans rfl, (hcell HB.out hw648_0), (hcell HB.out hw648_1), (hcell HB.out hw649_0), (hcell HB.out hw649_1)⟩ (fun hHeld => ?_); refine with_tabW quinarialaw02_ChannelHeights.tab16 quinarialaw02_ChannelHeights.bits16 (fun HT_ HW_ => ?_)
                    generalize wr.drew = w157 at HO_7 BK623 HB hx648_0 hx648_1 hx649_0 hx649_1 hHeld ⊢
                    refine pu 0 144 22 1 ?_
                    refine pu 1 145 22 3 ?_
                    refine pu 3 147 22 11 ?_
                    refine pu 5 149 22 43 ?_
                    refine pu 10 154 22 1067 ?_
                    refine pu 11 155 22 3115 ?_
                    refine pu 13 157 22 11307 ?_
                    refine pu 15 159 22 44075 ?_
                    refine tk8 2 146 22 44079 hHeld ?_
                    refine tk8 4 148 22 44095 hHeld ?_
                    refine pu 6 150 22 44159 ?_
                    refine pu 7 151 22 44287 ?_
                    refine tk8 8 152 22 44543 hHeld ?_
                    refine pu 9 153 22 45055 ?_
                    refine pu 20 17 22 1093631 ?_
                    refine tk8 12 156 22 1097727 hHeld ?_
                    refine tk8 14 158 22 1114111 hHeld ?_
                    refine pu 16 160 22 1179647 ?_
                    refine pu 17 161 22 1310719 ?_
                    refine tk8 18 162 22 1572863 hHeld ?_
                    refine pu 19 163 22 2097151 ?_
                    refine pu 21 18 22 4194303 ?_
                    refine done_ (done_of HT_.out (by kernel_rfl)) ?_
                    try go_wp2
                    go_ret
                    exact ⟨by first | rfl | (simp [errW_none, errW_some] <;> rfl) | (simp only [← hji125]; first | rfl | (simp [errW_none, errW_some] <;> rfl)) | (simp [*, errW_none, errW_some] <;> rfl), uB⟩
end Go.Proofs.YtdmdahafiiggiabGreatDoor.K
end
section
namespace Go.Proofs.YtdmdahafiiggiabGreatDoor.K
open Go.RowKit Go.Proofs.YtdmdahafiiggiabGreatDoorW.PrintWords Go.Proofs.YtdmdahafiiggiabGreatDoorW.PrintLast Go.Proofs.YtdmdahafiiggiabGreatDoorW.PrintMore
attribute [local go_sem] max2_int min2_int max_two min_two max_three min_three max_four min_four
def quinariaref02_Carries.l0 : Nat → Int → Int → Int → List Int → List (S66) → Int → Int → Option (Int × Int)
 | 0, _, _, _, _, _, _, _ => none
 | k + 1, x1, x2, x8, x915000, x915001, x917000, x917001 => if 0 ≤ x1 then (if x1 < (x915001.length : Int) then (if x8 ≤ ((rd_T66 x915001 x1).f3.f1) then ((quinariaref02_Cups.f x915000 x915001 x1 x2 x8).bind fun t919 => (quinariaref02_Carries.l0 k x1 x2 (wrap64 (x8 + 1)) x915000 x915001 (mn x917000 t919) (mx x917001 t919))) else (some (x917000, x917001))) else (none)) else (none)
def quinariaref02_Carries.f (k : Nat) (l0_0 : List Int) (l0_1 : List (S66)) (a1 : Int) (a2 : Int) : Option (Int × Int) := if 0 ≤ a1 then (if a1 < (l0_1.length : Int) then (quinariaref02_Carries.l0 k a1 a2 ((rd_T66 l0_1 a1).f3.f0) l0_0 l0_1 10000001 (-1)) else (none)) else (none)
end Go.Proofs.YtdmdahafiiggiabGreatDoor.K
end
section
namespace Go.Proofs.YtdmdahafiiggiabGreatDoor.K
open Go.RowKit Go.Proofs.YtdmdahafiiggiabGreatDoorW.PrintWords Go.Proofs.YtdmdahafiiggiabGreatDoorW.PrintLast Go.Proofs.YtdmdahafiiggiabGreatDoorW.PrintMore
abbrev ST := S66
variable {sp : List Int} {st : List ST}
theorem w1 {x : Int} (h0 : -1 ≤ x) (h : x < 9223372036854775807) : wrap64 (x + 1) = x + 1 := IntWalk.wrap64_in _ (by omega)
theorem rd_at (l : List Int) (j : Nat) : rd l (j : Int) = l.getD j 0 := by simp [rd]
end Go.Proofs.YtdmdahafiiggiabGreatDoor.K
end
section
namespace Go.Proofs.YtdmdahafiiggiabGreatDoor.K
open Go.RowKit Go.Proofs.YtdmdahafiiggiabGreatDoorW.PrintWords Go.Proofs.YtdmdahafiiggiabGreatDoorW.PrintLast Go.Proofs.YtdmdahafiiggiabGreatDoorW.PrintMore
attribute [local go_sem] max2_int min2_int max_two min_two max_three min_three max_four min_four
def quinariaref02_Pressures.l0 : Nat → List (S23) → Int → Int → Int → List (S23) → List Int → Option ((List (S23)))
 | 0, _, _, _, _, _, _ => none
 | k + 1, x3, x4, x589000, x589001, x589002, x589003 => if x4 < (x589003.length : Int) then (if 0 ≤ x4 then (if x4 < (x589002.length : Int) then (if 0 ≤ (wrap64 (x4 + 1)) then (if (wrap64 (x4 + 1)) < (x589002.length : Int) then ((quinariaref02_Pressure.f x589000 ((rd_T23 x589002 x4).f1) ((rd_T23 x589002 (wrap64 (x4 + 1))).f1)).bind fun t593 => ((quinariaref02_Pressure.f x589001 ((rd_T23 x589002 x4).f0) ((rd_T23 x589002 (wrap64 (x4 + 1))).f0)).bind fun t594 => (if x3.length < 8796093022208 then (quinariaref02_Pressures.l0 k (x3 ++ [(⟨t593, t594⟩ : S23)]) (wrap64 (x4 + 1)) x589000 x589001 x589002 x589003) else (none)))) else (none)) else (none)) else (none)) else (none)) else (some x3)
def quinariaref02_Pressures.f (k : Nat) (a0_0 : Int) (a0_1 : Int) (l0_2 : List (S23)) (l0_3 : List Int) : Option ((List (S23))) := quinariaref02_Pressures.l0 k ([] : List (S23)) 0 a0_0 a0_1 l0_2 l0_3
end Go.Proofs.YtdmdahafiiggiabGreatDoor.K
end
section
namespace Go.Proofs.YtdmdahafiiggiabGreatDoor.K
open Go.RowKit Go.Proofs.YtdmdahafiiggiabGreatDoorW.PrintWords Go.Proofs.YtdmdahafiiggiabGreatDoorW.PrintLast Go.Proofs.YtdmdahafiiggiabGreatDoorW.PrintMore
attribute [local go_sem] max2_int min2_int max_two min_two max_three min_three max_four min_four
def quinariaref02_Flows.f (a0_0 : Int) (a0_1 : Int) (l0_2 : List (S23)) (l0_3 : List Int) : Option (Int) := if 0 ≤ (wrap64 ((l0_2.length : Int) - 1)) then (if (wrap64 ((l0_2.length : Int) - 1)) < (l0_2.length : Int) then (if a0_0 > ((rd_T23 l0_2 (wrap64 ((l0_2.length : Int) - 1))).f1) then (some 3) else (if a0_1 ≤ ((rd_T23 l0_2 (wrap64 ((l0_2.length : Int) - 1))).f0) then (some 1) else (some 2))) else (none)) else (none)
end Go.Proofs.YtdmdahafiiggiabGreatDoor.K
end
section
namespace Go.Proofs.YtdmdahafiiggiabGreatDoor.K
open Go.RowKit Go.Proofs.YtdmdahafiiggiabGreatDoorW.PrintWords Go.Proofs.YtdmdahafiiggiabGreatDoorW.PrintLast Go.Proofs.YtdmdahafiiggiabGreatDoorW.PrintMore
attribute [local go_sem] max2_int min2_int max_two min_two max_three min_three max_four min_four
def quinariaref02_Classes.l0 : Nat → List (S53) → Int → Option (Bool)
 | 0, _, _ => none
 | k + 1, x0, x3 => if x3 < (x0.length : Int) then (if 0 ≤ x3 then ((quinariaref02_in.f ((rd_T53 x0 x3).f0) 1 1000).bind fun t655 => (if t655 = true then ((quinariaref02_in.f ((rd_T53 x0 x3).f1) 0 100).bind fun t657 => (if t657 = true then ((quinariaref02_in.f ((rd_T53 x0 x3).f2) 0 1000).bind fun t659 => (if t659 = true then (quinariaref02_Classes.l0 k x0 (wrap64 (x3 + 1))) else (some false))) else (some false))) else (some false))) else (none)) else ((quinariaref02_in.f (x0.length : Int) 1 4).bind fun t653 => (some t653))
def quinariaref02_Classes.f (k : Nat) (l0 : List (S53)) : Option (Bool) := quinariaref02_Classes.l0 k l0 0
end Go.Proofs.YtdmdahafiiggiabGreatDoor.K
end
section
namespace Go.Proofs.YtdmdahafiiggiabGreatDoor.K
open Go.RowKit Go.Proofs.YtdmdahafiiggiabGreatDoorW.PrintWords Go.Proofs.YtdmdahafiiggiabGreatDoorW.PrintLast Go.Proofs.YtdmdahafiiggiabGreatDoorW.PrintMore
attribute [local go_sem] max2_int min2_int max_two min_two max_three min_three max_four min_four
def quinariaref02_Chosen.l0 : Nat → List (S53) → List Int → Int → Int → Int → List (S23) → List Int → Option (Bool)
 | 0, _, _, _, _, _, _, _ => none
 | k + 1, x1, x2, x7, x661000, x661001, x661002, x661003 => if x7 < (x2.length : Int) then (if 0 ≤ x7 then ((quinariaref02_in.f (rd x2 x7) 0 (wrap64 ((x1.length : Int) - 1))).bind fun t662 => (if t662 = true then (quinariaref02_Chosen.l0 k x1 x2 (wrap64 (x7 + 1)) x661000 x661001 x661002 x661003) else (some false))) else (none)) else (some ((x2.length : Int) == (x661003.length : Int)))
def quinariaref02_Chosen.f (k : Nat) (a0_0 : Int) (a0_1 : Int) (l0_2 : List (S23)) (l0_3 : List Int) (l1 : List (S53)) (l2 : List Int) : Option (Bool) := quinariaref02_Chosen.l0 k l1 l2 0 a0_0 a0_1 l0_2 l0_3
end Go.Proofs.YtdmdahafiiggiabGreatDoor.K
end
section
namespace Go.Proofs.YtdmdahafiiggiabGreatDoor.K
open Go.RowKit Go.Proofs.YtdmdahafiiggiabGreatDoorW.PrintWords Go.Proofs.YtdmdahafiiggiabGreatDoorW.PrintLast Go.Proofs.YtdmdahafiiggiabGreatDoorW.PrintMore
attribute [local go_sem] max2_int min2_int max_two min_two max_three min_three max_four min_four
def quinariaref02_Bursts.l0 : Nat → List (S53) → List Int → List (S23) → List Int → Int → Option (List Int)
 | 0, _, _, _, _, _ => none
 | k + 1, x1, x2, x7, x8, x9 => if x9 < (x2.length : Int) then (if 0 ≤ x9 then (if x9 < (x7.length : Int) then (if 0 ≤ (rd x2 x9) then (if (rd x2 x9) < (x1.length : Int) then (if ((rd_T23 x7 x9).f1) > ((rd_T53 x1 (rd x2 x9)).f0) then (if x8.length < 17592186044416 then (quinariaref02_Bursts.l0 k x1 x2 x7 (x8 ++ [x9]) (wrap64 (x9 + 1))) else (none)) else (quinariaref02_Bursts.l0 k x1 x2 x7 x8 (wrap64 (x9 + 1)))) else (none)) else (none)) else (none)) else (none)) else (some x8)
def quinariaref02_Bursts.f (k : Nat) (a0_0 : Int) (a0_1 : Int) (l0_2 : List (S23)) (l0_3 : List Int) (l1 : List (S53)) (l2 : List Int) : Option (List Int) := (quinariaref02_Pressures.f k a0_0 a0_1 l0_2 l0_3).bind fun t664 => (quinariaref02_Bursts.l0 k l1 l2 t664 ([] : List Int) 0)
end Go.Proofs.YtdmdahafiiggiabGreatDoor.K
end
