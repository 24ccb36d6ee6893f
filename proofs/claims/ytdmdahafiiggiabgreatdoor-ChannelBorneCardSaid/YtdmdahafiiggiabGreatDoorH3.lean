/- The walks of the functions that the laws of this seat call, and what they compute; joined out of smaller texts, part 3. -/
import Derived.IntWalk
import Derived.Scope
import Derived.Deep.QuietTactic
import Derived.BigQuiet
import Derived.Deep.Slices
import Derived.ProofKit
import Derived.OpenShut
import Derived.Test.YtdmdahafiiggiabGreatDoorProg
import Derived.Shelf.Strconv.Itoa3
import Derived.Shelf.Strings.Split
import Derived.Handy
import Derived.WalkMore
import Derived.WalkLawsBesides
import Derived.Outline
import Derived.Lib.ItoaLen
import Derived.Laws.RangeString
import Derived.Laws.RangeAny
import Derived.Test.YtdmdahafiiggiabGreatDoorH2
set_option linter.unusedVariables false
set_option linter.unusedSimpArgs false
section
namespace Go.Proofs.YtdmdahafiiggiabGreatDoor.K
open Go.RowKit Go.Proofs.YtdmdahafiiggiabGreatDoorW.PrintWords Go.Proofs.YtdmdahafiiggiabGreatDoorW.PrintLast Go.Proofs.YtdmdahafiiggiabGreatDoorW.PrintMore
attribute [local go_sem] max2_int min2_int max_two min_two max_three min_three max_four min_four
def channel_pressures.l0 : Nat → List (S23) → Int → Int → Int → Int → List (S23) → List Int → Option ((List (S23)))
 | 0, _, _, _, _, _, _, _ => none
 | k + 1, x3, x9, x10, x109000, x109001, x109002, x109003 => if x10 < x9 then (if 0 ≤ x10 then (if x10 < (x109002.length : Int) then (if 0 ≤ (wrap64 (x10 + 1)) then (if (wrap64 (x10 + 1)) < (x109002.length : Int) then (if x3.length < 8796093022208 then (channel_pressures.l0 k (x3 ++ [(⟨mx 0 (wrap64 (x109000 - (mn ((rd_T23 x109002 x10).f1) ((rd_T23 x109002 (wrap64 (x10 + 1))).f1)))), mx 0 (wrap64 (x109001 - (mn ((rd_T23 x109002 x10).f0) ((rd_T23 x109002 (wrap64 (x10 + 1))).f0))))⟩ : S23)]) x9 (wrap64 (x10 + 1)) x109000 x109001 x109002 x109003) else (none)) else (none)) else (none)) else (none)) else (none)) else (some x3)
def channel_pressures.f (k : Nat) (a0_0 : Int) (a0_1 : Int) (l0_2 : List (S23)) (l0_3 : List Int) : Option ((List (S23))) := channel_pressures.l0 k ([] : List (S23)) (l0_3.length : Int) 0 a0_0 a0_1 l0_2 l0_3
def channel_pressures.T5 : Bool × List (List Nat × List Nat) := (true, [([], []), ([0], [0]), ([], []), ([1, 2], [1, 2]), ([3], [3]), ([], []), ([5], [5]), ([], []), ([7], [7]), ([6, 8], [6, 8]), ([9], [9]), ([], []), ([], []), ([11, 4, 0, 1, 2, 3, 4, 11, 12], [4, 11]), ([12, 10, 13, 0, 1, 2, 3, 4, 5, 6, 7, 8, 9, 10, 11, 12, 13], [10, 12])])
def channel_pressures.B5 : List Nat := [0, 1, 0, 7, 15, 0, 32, 0, 128, 480, 992, 0, 0, 6175, 16383]
theorem channel_pressures.tab5 : rtab .any (opsOf Tryz.f56 5) = channel_pressures.T5 := by kernel_rfl
theorem channel_pressures.bits5 : waitsOk channel_pressures.T5.2 channel_pressures.B5 = true := by kernel_rfl
set_option maxHeartbeats 8000000 in
set_option maxRecDepth 100000 in
theorem channel_pressures.calls (k : Nat) (a0_0 : Int) (a0_1 : Int) (A0_2 : Option Addr) (c0_2 : Nat) (l0_2 : List (S23)) (A0_3 : Option Addr) (c0_3 : Nat) (l0_3 : List Int) (r : List (S23)) (w : World) (hr0_2 : Kd.C k23 w A0_2 l0_2.length l0_2) (hc0_2 : l0_2.length ≤ c0_2) (hr0_3 : Kd.C (Kd.int .i64) w A0_3 l0_3.length l0_3) (hc0_3 : l0_3.length ≤ c0_3) (h : channel_pressures.f k a0_0 a0_1 l0_2 l0_3 = some r) :
  Calls Tryz.prog 56 #[.agg #[.int .i64 a0_0, .int .i64 a0_1, .slice A0_2 l0_2.length c0_2, .slice A0_3 l0_3.length c0_3]] w fun e w' => ∃ v0_ : Value, e = .returned (v0_) ∧ Kd.R k23 23 w' w.heap.size (fun _ => True) v0_ r ∧ Below w.heap.size w w' := by
 have hu27 := Tryz.underlying27; have hu23 := Tryz.underlying23; have HR0_2 := Aside0.mk hr0_2; have HC0_2 := Aside0.mk hc0_2; clear hr0_2 hc0_2; have HR0_3 := Aside0.mk hr0_3; have HC0_3 := Aside0.mk hc0_3; clear hr0_3 hc0_3; have HB := Aside0.mk (Below.refl w.heap.size w); have H : (channel_pressures.l0 k ([] : List (S23)) (l0_3.length : Int) 0 a0_0 a0_1 l0_2 l0_3) = some r := h; clear h; have H' := Aside0.mk H; clear H
 go_enter Tryz.func56, Tryz.ntmps56
 go_wp2_with (first | ((with_reducible refine gate_dst (N := 1) rfl ?_); refine bxe 1 #[.int .i64 a0_0, .int .i64 a0_1, .slice A0_2 l0_2.length c0_2, .slice A0_3 l0_3.length c0_3] 27 ?_; intro gb108 hg w2 hbox hb; have n0_ := Aside0.mk (below_step uB hb); have n1_ := Aside0.mk (hbox); have n2_ := gw hg; have n3_ := gw hg; clear HB; have HB := n0_; have BK108 := n1_; have GW108 := n2_; have GE108 := n3_; clear n0_ n1_ n2_ n3_; clear hb hbox hg; obtain ⟨hcz3_0, hcz3_1, hcz3_2, hcz3_3⟩ := cz4 BK108.out; obtain ⟨hfz3_0, hfz3_1, hfz3_2, hfz3_3⟩ := fz4 BK108.out))
 go_loopg [3, 10] k (fun kq v3 v10 w' => ∃ (x3_1 : List (S23)) (x10_1 : Int), v10 = .int .i64 x10_1 ∧ Aside0 (channel_pressures.l0 kq x3_1 (l0_3.length : Int) x10_1 a0_0 a0_1 l0_2 l0_3 = some r) ∧ Aside0 (kq ≤ k) ∧ Aside0 (Kd.R k23 23 w' w.heap.size (fun _ => True) v3 x3_1) ∧ Aside0 (w'.heap[gb108]? = some (.cells #[.int .i64 a0_0, .int .i64 a0_1, (.slice A0_2 l0_2.length c0_2), (.slice A0_3 l0_3.length c0_3)] 27 (0, 0))) ∧ Aside0 (Below w.heap.size w w'))
 case atStart => exact ⟨(([] : List (S23))), (0), u0, H', ⟨Nat.le_refl _⟩, ⟨uN⟩, ⟨uK BK108.out⟩, ⟨uB⟩⟩
 case round =>
  clear H'; try clear p2; try clear hcz3_0; try clear hcz3_1; try clear hcz3_2; try clear hcz3_3; try clear hfz3_0; try clear hfz3_1; try clear hfz3_2; try clear hfz3_3
  obtain ⟨x3_1, x10_1, rfl, HA, HK1, HO_3, BK108, HB⟩ := hrel
  cases gk with
  | zero => exact absurd HA.out (by simp [channel_pressures.l0])
  | succ k1 =>
   have H := HA.out; clear HA; simp only [channel_pressures.l0] at H
   by_cases c4 : x10_1 < (l0_3.length : Int)
   ·rw [if_pos c4] at H; replace c4 := decide_eq_true c4; obtain ⟨c5, H⟩ := ifs H; replace c5 := decide_eq_true c5; obtain ⟨c6, H⟩ := ifs H; replace c6 := decide_eq_true c6; obtain ⟨ji7, hji7⟩ : ∃ j_ : Int, (wrap64 (x10_1 + 1)) = j_ := ⟨_, rfl⟩; replace H : (if 0 ≤ (ji7) then (if (ji7) < (l0_2.length : Int) then (if x3_1.length < 8796093022208 then (channel_pressures.l0 k1 (x3_1 ++ [(⟨mx 0 (wrap64 (a0_0 - (mn ((rd_T23 l0_2 x10_1).f1) ((rd_T23 l0_2 (ji7)).f1)))), mx 0 (wrap64 (a0_1 - (mn ((rd_T23 l0_2 x10_1).f0) ((rd_T23 l0_2 (ji7)).f0))))⟩ : S23)]) (l0_3.length : Int) ji7 a0_0 a0_1 l0_2 l0_3) else (none)) else (none)) else (none)) = some r := by first | (rw [hji7] at H; exact H) | (simp only [hji7] at H ⊢; exact H)
    have hji7w : (IntKind.i64.wrap (x10_1 + 1)) = ji7 := (i64_w _).trans hji7; obtain ⟨c8, H⟩ := ifs H; replace c8 := decide_eq_true c8; obtain ⟨c9, H⟩ := ifs H; replace c9 := decide_eq_true c9; obtain ⟨ji10, hji10⟩ : ∃ j_ : Int, (mn ((rd_T23 l0_2 x10_1).f1) ((rd_T23 l0_2 (ji7)).f1)) = j_ := ⟨_, rfl⟩; replace H : (if x3_1.length < 8796093022208 then (channel_pressures.l0 k1 (x3_1 ++ [(⟨mx 0 (wrap64 (a0_0 - (ji10))), mx 0 (wrap64 (a0_1 - (mn ((rd_T23 l0_2 x10_1).f0) ((rd_T23 l0_2 (ji7)).f0))))⟩ : S23)]) (l0_3.length : Int) ji7 a0_0 a0_1 l0_2 l0_3) else (none)) = some r := by first | (rw [hji10] at H; exact H) | (simp only [hji10] at H ⊢; exact H)
    have hji10_ : (if ((rd_T23 l0_2 (ji7)).f1) < ((rd_T23 l0_2 x10_1).f1) then ((rd_T23 l0_2 (ji7)).f1) else ((rd_T23 l0_2 x10_1).f1)) = ji10 := hji10; obtain ⟨ji11, hji11⟩ : ∃ j_ : Int, (mx 0 (wrap64 (a0_0 - (ji10)))) = j_ := ⟨_, rfl⟩; replace H : (if x3_1.length < 8796093022208 then (channel_pressures.l0 k1 (x3_1 ++ [(⟨ji11, mx 0 (wrap64 (a0_1 - (mn ((rd_T23 l0_2 x10_1).f0) ((rd_T23 l0_2 (ji7)).f0))))⟩ : S23)]) (l0_3.length : Int) ji7 a0_0 a0_1 l0_2 l0_3) else (none)) = some r := by first | (rw [hji11] at H; exact H) | (simp only [hji11] at H ⊢; exact H)
    have hji11_ : (if 0 < (wrap64 (a0_0 - (ji10))) then (wrap64 (a0_0 - (ji10))) else 0) = ji11 := hji11; obtain ⟨ji12, hji12⟩ : ∃ j_ : Int, (mn ((rd_T23 l0_2 x10_1).f0) ((rd_T23 l0_2 (ji7)).f0)) = j_ := ⟨_, rfl⟩; replace H : (if x3_1.length < 8796093022208 then (channel_pressures.l0 k1 (x3_1 ++ [(⟨ji11, mx 0 (wrap64 (a0_1 - (ji12)))⟩ : S23)]) (l0_3.length : Int) ji7 a0_0 a0_1 l0_2 l0_3) else (none)) = some r := by first | (rw [hji12] at H; exact H) | (simp only [hji12] at H ⊢; exact H)
    have hji12_ : (if ((rd_T23 l0_2 (ji7)).f0) < ((rd_T23 l0_2 x10_1).f0) then ((rd_T23 l0_2 (ji7)).f0) else ((rd_T23 l0_2 x10_1).f0)) = ji12 := hji12; obtain ⟨ji13, hji13⟩ : ∃ j_ : Int, (mx 0 (wrap64 (a0_1 - (ji12)))) = j_ := ⟨_, rfl⟩; replace H : (if x3_1.length < 8796093022208 then (channel_pressures.l0 k1 (x3_1 ++ [(⟨ji11, ji13⟩ : S23)]) (l0_3.length : Int) ji7 a0_0 a0_1 l0_2 l0_3) else (none)) = some r := by first | (rw [hji13] at H; exact H) | (simp only [hji13] at H ⊢; exact H)
    have hji13_ : (if 0 < (wrap64 (a0_1 - (ji12))) then (wrap64 (a0_1 - (ji12))) else 0) = ji13 := hji13; obtain ⟨c14, H⟩ := ifs H; have LMc14 := Aside0.mk c14; clear c14; obtain ⟨y113, hy113⟩ : ∃ y_ : List (S23), y_ = (x3_1 ++ [(⟨ji11, ji13⟩ : S23)]) := ⟨_, rfl⟩; rw [← hy113] at H; (try replace H := (Option.bind_some _ _).symm.trans H)
    have Ny113 := Aside0.mk hy113; clear hy113; have H' := Aside0.mk H; clear H; (try go_wp2); replace HO_3 := Aside0.mk (Kd.R_drew HO_3.out); replace BK108 := Aside0.mk (blk_drew BK108.out); replace HB := Aside0.mk (below_drew1 HB.out); have p109 : 0 ≤ (x10_1 : Int) := uD; have q109 : x10_1 < (l0_2.length : Int) := uD; obtain ⟨ad109, e109, hx109_0, hx109_1⟩ := at_T23 HR0_2.out x10_1 p109 q109; have hw109_1 := hx109_1; have hw109_0 := hx109_0
    cases e109
    replace hx109_0 := hcell HB.out hx109_0; replace hx109_1 := hcell HB.out hx109_1; replace p109 := eq_true p109; replace q109 := eq_true q109; have p110 : 0 ≤ ((ji7) : Int) := uD; have q110 : (ji7) < (l0_2.length : Int) := uD; obtain ⟨ad110, e110, hx110_0, hx110_1⟩ := at_T23 HR0_2.out (ji7) p110 q110; have hw110_1 := hx110_1; have hw110_0 := hx110_0; obtain rfl : ad109 = ad110 := (by injection e110); replace hx110_0 := hcell HB.out hx110_0; replace hx110_1 := hcell HB.out hx110_1; replace p110 := eq_true p110; replace q110 := eq_true q110; refine start_ (n := 15) (S := fun w' => w'.cell? ⟨gb108, 0, none⟩ = some (.int .i64 a0_0) ∧ w'.cell? ⟨gb108, 1, none⟩ = some (.int .i64 a0_1) ∧ w'.cell? ⟨gb108, 2, none⟩ = some (.slice (some ad109) l0_2.length c0_2) ∧ w'.cell? ⟨gb108, 3, none⟩ = some (.slice A0_3 l0_3.length c0_3) ∧ w'.cell? (ad109.add ((x10_1).toNat * 2)) = some (.int .i64 ((rd_T23 l0_2 x10_1).f0)) ∧ w'.cell? ⟨(ad109.add ((x10_1).toNat * 2)).block, (ad109.add ((x10_1).toNat * 2)).off + 1, none⟩ = some (.int .i64 ((rd_T23 l0_2 x10_1).f1)) ∧ w'.cell? (ad109.add (((ji7)).toNat * 2)) = some (.int .i64 ((rd_T23 l0_2 (ji7)).f0)) ∧ w'.cell? ⟨(ad109.add (((ji7)).toNat * 2)).block, (ad109.add (((ji7)).toNat * 2)).off + 1, none⟩ = some (.int .i64 ((rd_T23 l0_2 (ji7)).f1))) (ds := []) (bl 15 0) (by kernel_rfl) rfl rfl ⟨(blk_cell BK108.out 0).trans rfl, (blk_cell BK108.out 1).trans rfl, (blk_cell BK108.out 2).trans rfl, (blk_cell BK108.out 3).trans rfl, (hcell HB.out hw109_0), (hcell HB.out hw109_1), (hcell HB.out hw110_0), (hcell HB.out hw110_1)⟩ (fun hHeld => ?_); refine with_tabW channel_pressures.tab5 channel_pressures.bits5 (fun HT_ HW_ => ?_)
    generalize wr.drew = w15 at HO_3 BK108 HB hx109_0 hx109_1 hx110_0 hx110_1 hHeld ⊢; refine pu 0 13 15 1 ?_; refine pu 2 15 15 5 ?_; refine pu 5 18 15 37 ?_; refine pu 7 20 15 165 ?_; refine pu 8 21 15 421 ?_; refine tk8 1 14 15 423 hHeld ?_; refine pu 3 16 15 431 ?_; refine tk8 4 17 15 447 hHeld ?_; refine tk8 6 19 15 511 hHeld ?_; refine pu 9 22 15 1023 ?_; refine tk8 10 23 15 2047 hHeld ?_; refine join_ (σ := Nat × Nat) 2 (bl 15 8191) (fun s_ => [(5, .pointer (some ⟨s_.1, 0, none⟩)), (6, .pointer (some ⟨s_.2, 0, none⟩))]) (fun s_ w' => (w'.cell? ⟨gb108, 0, none⟩ = some (.int .i64 a0_0) ∧ w'.cell? ⟨gb108, 1, none⟩ = some (.int .i64 a0_1) ∧ w'.cell? ⟨gb108, 2, none⟩ = some (.slice (some ad109) l0_2.length c0_2) ∧ w'.cell? ⟨gb108, 3, none⟩ = some (.slice A0_3 l0_3.length c0_3) ∧ w'.cell? (ad109.add ((x10_1).toNat * 2)) = some (.int .i64 ((rd_T23 l0_2 x10_1).f0)) ∧ w'.cell? ⟨(ad109.add ((x10_1).toNat * 2)).block, (ad109.add ((x10_1).toNat * 2)).off + 1, none⟩ = some (.int .i64 ((rd_T23 l0_2 x10_1).f1)) ∧ w'.cell? (ad109.add (((ji7)).toNat * 2)) = some (.int .i64 ((rd_T23 l0_2 (ji7)).f0)) ∧ w'.cell? ⟨(ad109.add (((ji7)).toNat * 2)).block, (ad109.add (((ji7)).toNat * 2)).off + 1, none⟩ = some (.int .i64 ((rd_T23 l0_2 (ji7)).f1))) ∧ (Kd.R k23 23 w' w.heap.size (fun k_ => k_ ≠ s_.1 ∧ k_ ≠ s_.2) u3 x3_1) ∧ (w'.heap[gb108]? = some (.cells #[.int .i64 a0_0, .int .i64 a0_1, .slice (some ad109) l0_2.length c0_2, .slice A0_3 l0_3.length c0_3] 27 (0, 0))) ∧ (w'.heap[s_.1]? = some (.cells #[.int .i64 0, .int .i64 0] 23 (0, 0))) ∧ (w'.heap[s_.2]? = some (.cells #[.int .i64 0, .int .i64 0] 23 (0, 0))) ∧ (w.heap.size ≤ s_.1) ∧ (w.heap.size ≤ s_.1) ∧ (gb108 ≠ s_.1) ∧ (s_.1 ≠ gb108) ∧ (s_.2 ≠ s_.1) ∧ (s_.1 ≠ s_.2) ∧ (w.heap.size ≤ s_.2) ∧ (w.heap.size ≤ s_.2) ∧ (gb108 ≠ s_.2) ∧ (s_.2 ≠ gb108) ∧ (Below w.heap.size w w')) ?_ ?_; rotate_left
    ·intro hCont; refine two_ (i := 11) (j := 12) (Ni := some 5) (Nj := some 6) (bl 15 4095) (bl 15 6143) rfl rfl rfl rfl (two_of HT_.out (by kernel_rfl)) (by decide) (by decide) (fun K hK => ?_) (fun K hK => ?_)
     ·skip
      refine bxs 5 #[.int .i64 0, .int .i64 0] 23 ?_; intro gb111 hg w16 hbox hb; have n0_ := rE HO_3 hg hb; have n1_ := Aside0.mk (blk_below (uK BK108.out) hb); have n2_ := Aside0.mk (below_step uB hb); have n3_ := Aside0.mk (hbox); have n4_ := gw hg; have n5_ := gw hg; have n6_ := nb BK108 hg; have n7_ := nc BK108 hg; clear HO_3 BK108 HB; have HO_3 := n0_; have BK108 := n1_; have HB := n2_; have BK111 := n3_; have GW111 := n4_; have GE111 := n5_; have NB108_111 := n6_; have NB111_108 := n7_; clear n0_ n1_ n2_ n3_ n4_ n5_ n6_ n7_; clear hb hbox hg; refine hK.out _ _ ⟨(blk_cell BK108.out 0).trans rfl, (blk_cell BK108.out 1).trans rfl, (blk_cell BK108.out 2).trans rfl, (blk_cell BK108.out 3).trans rfl, (hcell HB.out hw109_0), (hcell HB.out hw109_1), (hcell HB.out hw110_0), (hcell HB.out hw110_1)⟩ (fun hHeld => ?_); clear hK K; refine nm ?_; refine one_ (i := 12) (N := some 6) (bl 15 8191) rfl rfl (one_of HT_.out (by kernel_rfl)) (by decide) (fun K hK => ?_); refine bxs 6 #[.int .i64 0, .int .i64 0] 23 ?_; intro gb112 hg w17 hbox hb; have n0_ := rE HO_3 hg hb; have n1_ := Aside0.mk (blk_below (uK BK108.out) hb); have n2_ := Aside0.mk (blk_below (uK BK111.out) hb); have n3_ := Aside0.mk (below_step uB hb); have n4_ := Aside0.mk (hbox); have n5_ := gw hg; have n6_ := gw hg; have n7_ := nb BK108 hg; have n8_ := nc BK108 hg; have n9_ := nb BK111 hg; have n10_ := nc BK111 hg; clear HO_3 BK108 BK111 HB; have HO_3 := n0_; have BK108 := n1_; have BK111 := n2_; have HB := n3_; have BK112 := n4_; have GW112 := n5_; have GE112 := n6_; have NB108_112 := n7_; have NB112_108 := n8_; have NB111_112 := n9_; have NB112_111 := n10_; clear n0_ n1_ n2_ n3_ n4_ n5_ n6_ n7_ n8_ n9_ n10_; clear hb hbox hg; refine hK.out _ _ ⟨(blk_cell BK108.out 0).trans rfl, (blk_cell BK108.out 1).trans rfl, (blk_cell BK108.out 2).trans rfl, (blk_cell BK108.out 3).trans rfl, (hcell HB.out hw109_0), (hcell HB.out hw109_1), (hcell HB.out hw110_0), (hcell HB.out hw110_1)⟩ (fun hHeld => ?_); clear hK K; refine nm ?_; exact norm_ (by simp only [putAll, Act.put, List.setIfInBounds_toArray, List.set_cons_zero, List.set_cons_succ]) (hCont (gb111, gb112) _ ⟨hHeld, (by refine uR ?_; exact Kd.R_mono HO_3.out (fun _ hk => ⟨hk.1.2, hk.2⟩)), (uK BK108.out), (uK BK111.out), (uK BK112.out), GW111.out, GE111.out, NB108_111.out, NB111_108.out, NB112_111.out, NB111_112.out, GW112.out, GE112.out, NB108_112.out, NB112_108.out, uB⟩)
     ·skip
      refine bxs 6 #[.int .i64 0, .int .i64 0] 23 ?_; intro gb112 hg w16 hbox hb; have n0_ := rE HO_3 hg hb; have n1_ := Aside0.mk (blk_below (uK BK108.out) hb); have n2_ := Aside0.mk (below_step uB hb); have n3_ := Aside0.mk (hbox); have n4_ := gw hg; have n5_ := gw hg; have n6_ := nb BK108 hg; have n7_ := nc BK108 hg; clear HO_3 BK108 HB; have HO_3 := n0_; have BK108 := n1_; have HB := n2_; have BK112 := n3_; have GW112 := n4_; have GE112 := n5_; have NB108_112 := n6_; have NB112_108 := n7_; clear n0_ n1_ n2_ n3_ n4_ n5_ n6_ n7_; clear hb hbox hg; refine hK.out _ _ ⟨(blk_cell BK108.out 0).trans rfl, (blk_cell BK108.out 1).trans rfl, (blk_cell BK108.out 2).trans rfl, (blk_cell BK108.out 3).trans rfl, (hcell HB.out hw109_0), (hcell HB.out hw109_1), (hcell HB.out hw110_0), (hcell HB.out hw110_1)⟩ (fun hHeld => ?_); clear hK K; refine nm ?_; refine one_ (i := 11) (N := some 5) (bl 15 8191) rfl rfl (one_of HT_.out (by kernel_rfl)) (by decide) (fun K hK => ?_); refine bxs 5 #[.int .i64 0, .int .i64 0] 23 ?_; intro gb111 hg w17 hbox hb; have n0_ := rE HO_3 hg hb; have n1_ := Aside0.mk (blk_below (uK BK108.out) hb); have n2_ := Aside0.mk (blk_below (uK BK112.out) hb); have n3_ := Aside0.mk (below_step uB hb); have n4_ := Aside0.mk (hbox); have n5_ := gw hg; have n6_ := gw hg; have n7_ := nb BK108 hg; have n8_ := nc BK108 hg; have n9_ := nb BK112 hg; have n10_ := nc BK112 hg; clear HO_3 BK108 BK112 HB; have HO_3 := n0_; have BK108 := n1_; have BK112 := n2_; have HB := n3_; have BK111 := n4_; have GW111 := n5_; have GE111 := n6_; have NB108_111 := n7_; have NB111_108 := n8_; have NB112_111 := n9_; have NB111_112 := n10_; clear n0_ n1_ n2_ n3_ n4_ n5_ n6_ n7_ n8_ n9_ n10_; clear hb hbox hg; refine hK.out _ _ ⟨(blk_cell BK108.out 0).trans rfl, (blk_cell BK108.out 1).trans rfl, (blk_cell BK108.out 2).trans rfl, (blk_cell BK108.out 3).trans rfl, (hcell HB.out hw109_0), (hcell HB.out hw109_1), (hcell HB.out hw110_0), (hcell HB.out hw110_1)⟩ (fun hHeld => ?_); clear hK K; refine nm ?_; exact norm_ (by simp only [putAll, Act.put, List.setIfInBounds_toArray, List.set_cons_zero, List.set_cons_succ]) (hCont (gb111, gb112) _ ⟨hHeld, (by refine uR ?_; exact Kd.R_mono HO_3.out (fun _ hk => ⟨hk.2, hk.1.2⟩)), (uK BK108.out), (uK BK111.out), (uK BK112.out), GW111.out, GE111.out, NB108_111.out, NB111_108.out, NB112_111.out, NB111_112.out, GW112.out, GE112.out, NB108_112.out, NB112_108.out, uB⟩)
    rintro ⟨gb111, gb112⟩ w18 ⟨hS_, h0_, h1_, h2_, h3_, h4_, h5_, h6_, h7_, h8_, h9_, h10_, h11_, h12_, h13_, h14_⟩; (try dsimp only at h0_ h1_ h2_ h3_ h4_ h5_ h6_ h7_ h8_ h9_ h10_ h11_ h12_ h13_ h14_); have n0_ := Aside0.mk h0_; have n1_ := Aside0.mk h1_; have n2_ := Aside0.mk h2_; have n3_ := Aside0.mk h3_; have n4_ := Aside0.mk h4_; have n5_ := Aside0.mk h5_; have n6_ := Aside0.mk h6_; have n7_ := Aside0.mk h7_; have n8_ := Aside0.mk h8_; have n9_ := Aside0.mk h9_; have n10_ := Aside0.mk h10_; have n11_ := Aside0.mk h11_; have n12_ := Aside0.mk h12_; have n13_ := Aside0.mk h13_; have n14_ := Aside0.mk h14_; clear HO_3 BK108 HB; clear h0_ h1_ h2_ h3_ h4_ h5_ h6_ h7_ h8_ h9_ h10_ h11_ h12_ h13_ h14_; have HO_3 := n0_; have BK108 := n1_; have BK111 := n2_; have BK112 := n3_; have GW111 := n4_; have GE111 := n5_; have NB108_111 := n6_; have NB111_108 := n7_; have NB112_111 := n8_; have NB111_112 := n9_; have GW112 := n10_; have GE112 := n11_; have NB108_112 := n12_; have NB112_108 := n13_; have HB := n14_; clear n0_ n1_ n2_ n3_ n4_ n5_ n6_ n7_ n8_ n9_ n10_ n11_ n12_ n13_ n14_; have hHeld : w18.cell? ⟨gb108, 0, none⟩ = some (.int .i64 a0_0) ∧ w18.cell? ⟨gb108, 1, none⟩ = some (.int .i64 a0_1) ∧ w18.cell? ⟨gb108, 2, none⟩ = some (.slice (some ad109) l0_2.length c0_2) ∧ w18.cell? ⟨gb108, 3, none⟩ = some (.slice A0_3 l0_3.length c0_3) ∧ w18.cell? (ad109.add ((x10_1).toNat * 2)) = some (.int .i64 ((rd_T23 l0_2 x10_1).f0)) ∧ w18.cell? ⟨(ad109.add ((x10_1).toNat * 2)).block, (ad109.add ((x10_1).toNat * 2)).off + 1, none⟩ = some (.int .i64 ((rd_T23 l0_2 x10_1).f1)) ∧ w18.cell? (ad109.add (((ji7)).toNat * 2)) = some (.int .i64 ((rd_T23 l0_2 (ji7)).f0)) ∧ w18.cell? ⟨(ad109.add (((ji7)).toNat * 2)).block, (ad109.add (((ji7)).toNat * 2)).off + 1, none⟩ = some (.int .i64 ((rd_T23 l0_2 (ji7)).f1)) := hS_; refine nm ?_; refine one_ (i := 13) (N := none) (bl 15 16383) rfl rfl (one_of HT_.out (by kernel_rfl)) (by decide) (fun K hK => ?_); have hs19 := (blk_cell BK111.out 0).trans rfl; have hfs19 := blk_frozen BK111.out 0; have hns19_0 := NB108_111.out; have hns19_2 := NB112_111.out; have hms19_0 := NB111_108.out; have hms19_2 := NB111_112.out; have hs20 := (blk_cell BK111.out 1).trans rfl; have hfs20 := blk_frozen BK111.out 1; have hns20_0 := NB108_111.out; have hns20_2 := NB112_111.out; have hms20_0 := NB111_108.out; have hms20_2 := NB111_112.out; refine skip_ (w1 := ?_) (by rfl) rfl ?_ ?_; rotate_left
    ·go_simp
     rfl
    refine hK.out _ _ ⟨((cf gb111 NB108_111.out).trans (((cf gb111 NB108_111.out).trans (hHeld.1)))), ((cf gb111 NB108_111.out).trans (((cf gb111 NB108_111.out).trans (hHeld.2.1)))), ((cf gb111 NB108_111.out).trans (((cf gb111 NB108_111.out).trans (hHeld.2.2.1)))), ((cf gb111 NB108_111.out).trans (((cf gb111 NB108_111.out).trans (hHeld.2.2.2.1)))), ((cf gb111 (fl hw109_0 GW111)).trans (((cf gb111 (fl hw109_0 GW111)).trans (hHeld.2.2.2.2.1)))), ((cf gb111 (fl hw109_1 GW111)).trans (((cf gb111 (fl hw109_1 GW111)).trans (hHeld.2.2.2.2.2.1)))), ((cf gb111 (fl hw110_0 GW111)).trans (((cf gb111 (fl hw110_0 GW111)).trans (hHeld.2.2.2.2.2.2.1)))), ((cf gb111 (fl hw110_1 GW111)).trans (((cf gb111 (fl hw110_1 GW111)).trans (hHeld.2.2.2.2.2.2.2))))⟩ (fun hHeld => ?_); clear hK K; refine one_ (i := 14) (N := none) (bl 15 32767) rfl rfl (one_of HT_.out (by kernel_rfl)) (by decide) (fun K hK => ?_); have hs21 := (blk_cell BK112.out 0).trans rfl; have hfs21 := blk_frozen BK112.out 0; have hns21_0 := NB108_112.out; have hns21_1 := NB111_112.out; have hms21_0 := NB112_108.out; have hms21_1 := NB112_111.out; have hs22 := (blk_cell BK112.out 1).trans rfl; have hfs22 := blk_frozen BK112.out 1; have hns22_0 := NB108_112.out; have hns22_1 := NB111_112.out; have hms22_0 := NB112_108.out; have hms22_1 := NB112_111.out; refine skip_ (w1 := ?_) (by rfl) rfl ?_ ?_; rotate_left
    ·go_simp
     rfl
    refine hK.out _ _ ⟨((cf gb112 NB108_112.out).trans (((cf gb112 NB108_112.out).trans (hHeld.1)))), ((cf gb112 NB108_112.out).trans (((cf gb112 NB108_112.out).trans (hHeld.2.1)))), ((cf gb112 NB108_112.out).trans (((cf gb112 NB108_112.out).trans (hHeld.2.2.1)))), ((cf gb112 NB108_112.out).trans (((cf gb112 NB108_112.out).trans (hHeld.2.2.2.1)))), ((cf gb112 (fl hw109_0 GW112)).trans (((cf gb112 (fl hw109_0 GW112)).trans (hHeld.2.2.2.2.1)))), ((cf gb112 (fl hw109_1 GW112)).trans (((cf gb112 (fl hw109_1 GW112)).trans (hHeld.2.2.2.2.2.1)))), ((cf gb112 (fl hw110_0 GW112)).trans (((cf gb112 (fl hw110_0 GW112)).trans (hHeld.2.2.2.2.2.2.1)))), ((cf gb112 (fl hw110_1 GW112)).trans (((cf gb112 (fl hw110_1 GW112)).trans (hHeld.2.2.2.2.2.2.2))))⟩ (fun hHeld => ?_); clear hK K; refine done_ (done_of HT_.out (by kernel_rfl)) ?_; have hnb23 := NB108_111.out; have hnc23 := NB111_108.out; have hnb24 := NB108_112.out; have hnc24 := NB112_108.out; obtain ⟨hcz25_0, hcz25_1, hcz25_2, hcz25_3⟩ := cz4 BK108.out; obtain ⟨hfz25_0, hfz25_1, hfz25_2, hfz25_3⟩ := fz4 BK108.out; have hnb26 := NB111_112.out; have hnc26 := NB112_111.out; obtain ⟨hcz27_0, hcz27_1⟩ := cz2 BK111.out; obtain ⟨hfz27_0, hfz27_1⟩ := fz2 BK111.out; obtain ⟨hcz28_0, hcz28_1⟩ := cz2 BK112.out; obtain ⟨hfz28_0, hfz28_1⟩ := fz2 BK112.out; try go_wp2_with (first | ((with_reducible refine gate_builtin (b := .append) (xs := #[.tmp 24, .tmp 46]) rfl ?_); at_builtin; refine Kd.R_append k23 (w0 := w) w.heap.size rfl (.tmp 24) (.tmp 46) 24 23 (.agg #[(.int .i64 0), (.int .i64 0)]) 16 rfl Tryz.underlying24 info23 rfl (by decide) (by omega) u3 x3_1 (⟨ji11, ji13⟩ : S23) [.int .i64 ji11, .int .i64 ji13] (fun k_ => k_ ≠ gb111 ∧ k_ ≠ gb112) (fun _ => False) rfl (by first | (go_simp; done) | (go_simp; rfl)) ?aP (fun _ hk => hk.elim) ?aF ?aO ?aB ?aS ?aL ?_; (case aP => exact k23_mkM _ _ _ (⟨ji11, ji13⟩ : S23)); (case aB => exact uB); (case aF => exact (fun k_ hk => ⟨Kd.freshB (g := gb111) (o := .cells #[.int .i64 ((rd_T23 l0_2 x10_1).f0), .int .i64 ((rd_T23 l0_2 x10_1).f1)] 23 (0, 0)) (by refine uK ?_; refine blk_far ?_ NB111_112.out _; refine uK ?_; refine blk_far ?_ NB111_112.out _; refine uK ?_; refine blk_put (cs := #[.int .i64 ((rd_T23 l0_2 x10_1).f0), .int .i64 0]) ?_ 1 _ rfl; refine uK ?_; refine blk_put (cs := #[.int .i64 0, .int .i64 0]) ?_ 0 _ rfl; refine uK ?_; exact BK111.out) k_ hk, Kd.freshB (g := gb112) (o := .cells #[.int .i64 ((rd_T23 l0_2 (ji7)).f0), .int .i64 ((rd_T23 l0_2 (ji7)).f1)] 23 (0, 0)) (by refine uK ?_; refine blk_put (cs := #[.int .i64 ((rd_T23 l0_2 (ji7)).f0), .int .i64 0]) ?_ 1 _ rfl; refine uK ?_; refine blk_put (cs := #[.int .i64 0, .int .i64 0]) ?_ 0 _ rfl; refine uK ?_; refine blk_far ?_ NB112_111.out _; refine uK ?_; refine blk_far ?_ NB112_111.out _; refine uK ?_; exact BK112.out) k_ hk⟩)); (case aO => exact (by refine uR ?_; exact Kd.R_mono (Kd.R_far (p := ⟨gb112, 1, none⟩) (Kd.R_far (p := ⟨gb112, 0, none⟩) (Kd.R_far (p := ⟨gb111, 1, none⟩) (Kd.R_far (p := ⟨gb111, 0, none⟩) (Kd.R_mono (Kd.R_mono HO_3.out (fun k_ hk => (⟨hk, hk.1⟩ : _ ∧ k_ ≠ gb111))) (fun k_ hk => (⟨hk, hk.1.2⟩ : _ ∧ k_ ≠ gb112))) (fun _ hk => hk.1.2) (.int .i64 ((rd_T23 l0_2 x10_1).f0))) (fun _ hk => hk.1.2) (.int .i64 ((rd_T23 l0_2 x10_1).f1))) (fun _ hk => hk.2) (.int .i64 ((rd_T23 l0_2 (ji7)).f0))) (fun _ hk => hk.2) (.int .i64 ((rd_T23 l0_2 (ji7)).f1))) (fun _ hk => ⟨hk.1.1.1, hk.1.1.2⟩))); (case aS => exact (below_size uB)); (case aL => have := LMc14.out; omega); intro v114 w29 ho hb hg hat; rw [← Ny113.out] at ho; replace BK108 := Aside0.mk (blk_grown (g := gb108) (o := .cells #[.int .i64 a0_0, .int .i64 a0_1, .slice (some ad109) l0_2.length c0_2, .slice A0_3 l0_3.length c0_3] 27 (0, 0)) (by refine uK ?_; refine blk_far ?_ NB108_112.out _; refine uK ?_; refine blk_far ?_ NB108_112.out _; refine uK ?_; refine blk_far ?_ NB108_111.out _; refine uK ?_; refine blk_far ?_ NB108_111.out _; refine uK ?_; exact BK108.out) hg (Kd.R_ne HO_3.out BK108.out (by decide))); replace BK111 := Aside0.mk (blk_grown (g := gb111) (o := .cells #[.int .i64 ((rd_T23 l0_2 x10_1).f0), .int .i64 ((rd_T23 l0_2 x10_1).f1)] 23 (0, 0)) (by refine uK ?_; refine blk_far ?_ NB111_112.out _; refine uK ?_; refine blk_far ?_ NB111_112.out _; refine uK ?_; refine blk_put (cs := #[.int .i64 ((rd_T23 l0_2 x10_1).f0), .int .i64 0]) ?_ 1 _ rfl; refine uK ?_; refine blk_put (cs := #[.int .i64 0, .int .i64 0]) ?_ 0 _ rfl; refine uK ?_; exact BK111.out) hg (Kd.R_away HO_3.out (fun _ hk => hk.1))); replace BK112 := Aside0.mk (blk_grown (g := gb112) (o := .cells #[.int .i64 ((rd_T23 l0_2 (ji7)).f0), .int .i64 ((rd_T23 l0_2 (ji7)).f1)] 23 (0, 0)) (by refine uK ?_; refine blk_put (cs := #[.int .i64 ((rd_T23 l0_2 (ji7)).f0), .int .i64 0]) ?_ 1 _ rfl; refine uK ?_; refine blk_put (cs := #[.int .i64 0, .int .i64 0]) ?_ 0 _ rfl; refine uK ?_; refine blk_far ?_ NB112_111.out _; refine uK ?_; refine blk_far ?_ NB112_111.out _; refine uK ?_; exact BK112.out) hg (Kd.R_away HO_3.out (fun _ hk => hk.2))); have HO115 := Aside0.mk (ho); replace HB := Aside0.mk (hb); clear HO_3; clear ho hb hg hat))
    go_roundg k1
    case measure => have := HK1.out; omega
    case rel => exact ⟨(y113), (ji7), (by first | rfl | (simp; done) | (simp only [← hji7] <;> (first | rfl | simp)) | (simp [*]; done)), H', ⟨by have := HK1.out; omega⟩, ⟨by refine uR ?_; exact Kd.R_mono HO115.out (fun _ hk => trivial)⟩, ⟨uK BK108.out⟩, ⟨uB⟩⟩
   ·rw [if_neg c4] at H; replace c4 := decide_eq_false c4; obtain rfl := Option.some.inj H; go_wp2; go_ret; exact ⟨_, uE, uR HO_3.out, uB⟩
end Go.Proofs.YtdmdahafiiggiabGreatDoor.K
end
section
namespace Go.Proofs.YtdmdahafiiggiabGreatDoor.K
open Go.RowKit Go.Proofs.YtdmdahafiiggiabGreatDoorW.PrintWords Go.Proofs.YtdmdahafiiggiabGreatDoorW.PrintLast Go.Proofs.YtdmdahafiiggiabGreatDoorW.PrintMore
attribute [local go_sem] max2_int min2_int max_two min_two max_three min_three max_four min_four
def channel_bursts.l0 : Nat → List (S53) → List Int → List Int → List (S23) → Int → Int → Option (List Int)
 | 0, _, _, _, _, _, _ => none
 | k + 1, x1, x2, x7, x11, x12, x13 => if x13 < x12 then (if 0 ≤ x13 then (if x13 < (x11.length : Int) then (if x13 < (x2.length : Int) then (if 0 ≤ (rd x2 x13) then (if (rd x2 x13) < (x1.length : Int) then (if ((rd_T23 x11 x13).f1) > ((rd_T53 x1 (rd x2 x13)).f0) then (if x7.length < 17592186044416 then (channel_bursts.l0 k x1 x2 (x7 ++ [x13]) x11 x12 (wrap64 (x13 + 1))) else (none)) else (channel_bursts.l0 k x1 x2 x7 x11 x12 (wrap64 (x13 + 1)))) else (none)) else (none)) else (none)) else (none)) else (none)) else (some x7)
def channel_bursts.f (k : Nat) (a0_0 : Int) (a0_1 : Int) (l0_2 : List (S23)) (l0_3 : List Int) (l1 : List (S53)) (l2 : List Int) : Option (List Int) := (channel_pressures.f k a0_0 a0_1 l0_2 l0_3).bind fun t128 => (channel_bursts.l0 k l1 l2 ([] : List Int) t128 (t128.length : Int) 0)
set_option maxHeartbeats 8000000 in
set_option maxRecDepth 100000 in
theorem channel_bursts.calls (k : Nat) (a0_0 : Int) (a0_1 : Int) (A0_2 : Option Addr) (c0_2 : Nat) (l0_2 : List (S23)) (A0_3 : Option Addr) (c0_3 : Nat) (l0_3 : List Int) (A1 : Option Addr) (c1 : Nat) (l1 : List (S53)) (A2 : Option Addr) (c2 : Nat) (l2 : List Int) (r : List Int) (w : World) (hr0_2 : Kd.C k23 w A0_2 l0_2.length l0_2) (hc0_2 : l0_2.length ≤ c0_2) (hr0_3 : Kd.C (Kd.int .i64) w A0_3 l0_3.length l0_3) (hc0_3 : l0_3.length ≤ c0_3) (hr1 : Kd.C k53 w A1 l1.length l1) (hc1 : l1.length ≤ c1) (hr2 : Kd.C (Kd.int .i64) w A2 l2.length l2) (hc2 : l2.length ≤ c2) (h : channel_bursts.f k a0_0 a0_1 l0_2 l0_3 l1 l2 = some r) :
  Calls Tryz.prog 63 #[.agg #[.int .i64 a0_0, .int .i64 a0_1, .slice A0_2 l0_2.length c0_2, .slice A0_3 l0_3.length c0_3], .slice A1 l1.length c1, .slice A2 l2.length c2] w fun e w' => ∃ v0_ : Value, e = .returned (v0_) ∧ Kd.R (Kd.int .i64) 3 w' w.heap.size (fun _ => True) v0_ r ∧ Below w.heap.size w w' := by
 have hu27 := Tryz.underlying27; have hu23 := Tryz.underlying23; have HR0_2 := Aside0.mk hr0_2; have HC0_2 := Aside0.mk hc0_2; clear hr0_2 hc0_2; have HR0_3 := Aside0.mk hr0_3; have HC0_3 := Aside0.mk hc0_3; clear hr0_3 hc0_3; have HR1 := Aside0.mk hr1; have HC1 := Aside0.mk hc1; clear hr1 hc1; have HR2 := Aside0.mk hr2; have HC2 := Aside0.mk hc2; clear hr2 hc2; have HB := Aside0.mk (Below.refl w.heap.size w); have H : ((channel_pressures.f k a0_0 a0_1 l0_2 l0_3).bind fun t128 => (channel_bursts.l0 k l1 l2 ([] : List Int) t128 (t128.length : Int) 0)) = some r := h; clear h; replace H := Option.bind_eq_some_iff.mp H; obtain ⟨t128, A40, H⟩ := H; replace H : (channel_bursts.l0 k l1 l2 ([] : List Int) t128 (t128.length : Int) 0) = some r := H; have A4 := Aside0.mk A40; clear A40; have H' := Aside0.mk H; clear H
 go_enter Tryz.func63, Tryz.ntmps63
 go_wp2_with (first | ((with_reducible refine gate_dst (N := 3) rfl ?_); refine bxe 3 #[.int .i64 a0_0, .int .i64 a0_1, .slice A0_2 l0_2.length c0_2, .slice A0_3 l0_3.length c0_3] 27 ?_; intro gb127 hg w5 hbox hb; have n0_ := Aside0.mk (below_step uB hb); have n1_ := Aside0.mk (hbox); have n2_ := gw hg; have n3_ := gw hg; clear HB; have HB := n0_; have BK127 := n1_; have GW127 := n2_; have GE127 := n3_; clear n0_ n1_ n2_ n3_; clear hb hbox hg; obtain ⟨hcz6_0, hcz6_1, hcz6_2, hcz6_3⟩ := cz4 BK127.out; obtain ⟨hfz6_0, hfz6_1, hfz6_2, hfz6_3⟩ := fz4 BK127.out) | (go_at_call 56; (with_reducible refine (channel_pressures.calls k a0_0 a0_1 _ _ l0_2 _ _ l0_3 t128 _ ?side1 ?side2 ?side3 ?side4 A4.out).mono ?_); (case side1 => repeat (first | exact (Kd.C_below HR0_2.out HB.out) | (with_reducible refine Kd.C_alloc ?_ _) | (with_reducible refine Kd.C_drewN ?_ _) | (with_reducible refine Kd.C_drew ?_))); (case side2 => exact HC0_2.out); (case side3 => repeat (first | exact (Kd.C_below HR0_3.out HB.out) | (with_reducible refine Kd.C_alloc ?_ _) | (with_reducible refine Kd.C_drewN ?_ _) | (with_reducible refine Kd.C_drew ?_))); (case side4 => exact HC0_3.out); rintro e w7 ⟨v129, rfl, ho0, hb⟩; have HO130 := Aside0.mk (Kd.R_lower ho0 (below_size uB)); replace BK127 := Aside0.mk (blk_below (uK BK127.out) hb); replace HB := Aside0.mk (below_step uB hb); (try clear hb); (try clear hb2); (try clear hk); (try clear hi); (try clear ho0); obtain ⟨Ao8, co8, eo8⟩ := Kd.R_slice HO130.out; subst eo8))
 repeat (go_quiet (first | ((with_reducible refine gate_dst (N := 3) rfl ?_); refine bxe 3 #[.int .i64 a0_0, .int .i64 a0_1, .slice A0_2 l0_2.length c0_2, .slice A0_3 l0_3.length c0_3] 27 ?_; intro gb127 hg w5 hbox hb; have n0_ := Aside0.mk (below_step uB hb); have n1_ := Aside0.mk (hbox); have n2_ := gw hg; have n3_ := gw hg; clear HB; have HB := n0_; have BK127 := n1_; have GW127 := n2_; have GE127 := n3_; clear n0_ n1_ n2_ n3_; clear hb hbox hg; obtain ⟨hcz6_0, hcz6_1, hcz6_2, hcz6_3⟩ := cz4 BK127.out; obtain ⟨hfz6_0, hfz6_1, hfz6_2, hfz6_3⟩ := fz4 BK127.out) | (go_at_call 56; (with_reducible refine (channel_pressures.calls k a0_0 a0_1 _ _ l0_2 _ _ l0_3 t128 _ ?side1 ?side2 ?side3 ?side4 A4.out).mono ?_); (case side1 => repeat (first | exact (Kd.C_below HR0_2.out HB.out) | (with_reducible refine Kd.C_alloc ?_ _) | (with_reducible refine Kd.C_drewN ?_ _) | (with_reducible refine Kd.C_drew ?_))); (case side2 => exact HC0_2.out); (case side3 => repeat (first | exact (Kd.C_below HR0_3.out HB.out) | (with_reducible refine Kd.C_alloc ?_ _) | (with_reducible refine Kd.C_drewN ?_ _) | (with_reducible refine Kd.C_drew ?_))); (case side4 => exact HC0_3.out); rintro e w7 ⟨v129, rfl, ho0, hb⟩; have HO130 := Aside0.mk (Kd.R_lower ho0 (below_size uB)); replace BK127 := Aside0.mk (blk_below (uK BK127.out) hb); replace HB := Aside0.mk (below_step uB hb); (try clear hb); (try clear hb2); (try clear hk); (try clear hi); (try clear ho0); obtain ⟨Ao8, co8, eo8⟩ := Kd.R_slice HO130.out; subst eo8)); try go_wp2_with (first | ((with_reducible refine gate_dst (N := 3) rfl ?_); refine bxe 3 #[.int .i64 a0_0, .int .i64 a0_1, .slice A0_2 l0_2.length c0_2, .slice A0_3 l0_3.length c0_3] 27 ?_; intro gb127 hg w5 hbox hb; have n0_ := Aside0.mk (below_step uB hb); have n1_ := Aside0.mk (hbox); have n2_ := gw hg; have n3_ := gw hg; clear HB; have HB := n0_; have BK127 := n1_; have GW127 := n2_; have GE127 := n3_; clear n0_ n1_ n2_ n3_; clear hb hbox hg; obtain ⟨hcz6_0, hcz6_1, hcz6_2, hcz6_3⟩ := cz4 BK127.out; obtain ⟨hfz6_0, hfz6_1, hfz6_2, hfz6_3⟩ := fz4 BK127.out) | (go_at_call 56; (with_reducible refine (channel_pressures.calls k a0_0 a0_1 _ _ l0_2 _ _ l0_3 t128 _ ?side1 ?side2 ?side3 ?side4 A4.out).mono ?_); (case side1 => repeat (first | exact (Kd.C_below HR0_2.out HB.out) | (with_reducible refine Kd.C_alloc ?_ _) | (with_reducible refine Kd.C_drewN ?_ _) | (with_reducible refine Kd.C_drew ?_))); (case side2 => exact HC0_2.out); (case side3 => repeat (first | exact (Kd.C_below HR0_3.out HB.out) | (with_reducible refine Kd.C_alloc ?_ _) | (with_reducible refine Kd.C_drewN ?_ _) | (with_reducible refine Kd.C_drew ?_))); (case side4 => exact HC0_3.out); rintro e w7 ⟨v129, rfl, ho0, hb⟩; have HO130 := Aside0.mk (Kd.R_lower ho0 (below_size uB)); replace BK127 := Aside0.mk (blk_below (uK BK127.out) hb); replace HB := Aside0.mk (below_step uB hb); (try clear hb); (try clear hb2); (try clear hk); (try clear hi); (try clear ho0); obtain ⟨Ao8, co8, eo8⟩ := Kd.R_slice HO130.out; subst eo8)))
 go_loopg [7, 13] k (fun kq v7 v13 w' => ∃ (x7_1 : List Int) (x13_1 : Int), v13 = .int .i64 x13_1 ∧ Aside0 (channel_bursts.l0 kq l1 l2 x7_1 t128 (t128.length : Int) x13_1 = some r) ∧ Aside0 (kq ≤ k) ∧ Aside0 (Kd.R (Kd.int .i64) 3 w' w.heap.size (fun _ => True) v7 x7_1) ∧ Aside0 (Kd.R k23 23 w' w.heap.size (fun _ => True) (.slice Ao8 t128.length co8) t128) ∧ Aside0 (w'.heap[gb127]? = some (.cells #[.int .i64 a0_0, .int .i64 a0_1, (.slice A0_2 l0_2.length c0_2), (.slice A0_3 l0_3.length c0_3)] 27 (0, 0))) ∧ Aside0 (Below w.heap.size w w'))
 case atStart => exact ⟨(([] : List Int)), (0), u0, H', ⟨Nat.le_refl _⟩, ⟨uN⟩, ⟨uR HO130.out⟩, ⟨uK BK127.out⟩, ⟨uB⟩⟩
 case round =>
  clear H'; try clear c1; try clear c2; try clear p2; try clear c6; try clear hcz6_0; try clear hcz6_1; try clear hcz6_2; try clear hcz6_3; try clear hfz6_0; try clear hfz6_1; try clear hfz6_2; try clear hfz6_3
  obtain ⟨x7_1, x13_1, rfl, HA, HK1, HO_7, HO_11, BK127, HB⟩ := hrel
  cases gk with
  | zero => exact absurd HA.out (by simp [channel_bursts.l0])
  | succ k1 =>
   have H := HA.out; clear HA; simp only [channel_bursts.l0] at H
   by_cases c9 : x13_1 < (t128.length : Int)
   ·rw [if_pos c9] at H; replace c9 := decide_eq_true c9; obtain ⟨c10, H⟩ := ifs H; replace c10 := decide_eq_true c10; obtain ⟨c11, H⟩ := ifs H; replace c11 := decide_eq_true c11; obtain ⟨c12, H⟩ := ifs H; replace c12 := decide_eq_true c12; obtain ⟨c13, H⟩ := ifs H; replace c13 := decide_eq_true c13; obtain ⟨c14, H⟩ := ifs H; replace c14 := decide_eq_true c14
    by_cases c15 : ((rd_T23 t128 x13_1).f1) > ((rd_T53 l1 (rd l2 x13_1)).f0)
    ·rw [if_pos c15] at H; replace c15 := decide_eq_true c15; obtain ⟨c16, H⟩ := ifs H; have LMc16 := Aside0.mk c16; clear c16; obtain ⟨y135, hy135⟩ : ∃ y_ : List Int, y_ = (x7_1 ++ [x13_1]) := ⟨_, rfl⟩; rw [← hy135] at H; (try replace H := (Option.bind_some _ _).symm.trans H)
     have Ny135 := Aside0.mk hy135; clear hy135; have H' := Aside0.mk H; clear H; have p131 : 0 ≤ (x13_1 : Int) := uD; have q131 : x13_1 < (t128.length : Int) := uD; obtain ⟨ad131, e131, hx131_0, hx131_1⟩ := at_T23 (Kd.R_reads' HO_11.out).2.2 x13_1 p131 q131
     cases e131
     replace p131 := eq_true p131; replace q131 := eq_true q131
     go_wp2_with (first | ((with_reducible refine gate_dst (N := 9) rfl ?_); refine bxe 9 #[.int .i64 0, .int .i64 0] 23 ?_; intro gb132 hg w17 hbox hb; have n0_ := Aside0.mk (Kd.R_below (uR HO_7.out) hb); have n1_ := rE HO_11 hg hb; have n2_ := Aside0.mk (blk_below (uK BK127.out) hb); have n3_ := Aside0.mk (below_step uB hb); have n4_ := Aside0.mk (hbox); have n5_ := gw hg; have n6_ := gw hg; have n7_ := nb BK127 hg; have n8_ := nc BK127 hg; clear HO_7; clear HO_11; clear BK127; clear HB; have HO_7 := n0_; have HO_11 := n1_; have BK127 := n2_; have HB := n3_; have BK132 := n4_; have GW132 := n5_; have GE132 := n6_; have NB127_132 := n7_; have NB132_127 := n8_; clear n0_ n1_ n2_ n3_ n4_ n5_ n6_ n7_ n8_; clear hb hbox hg; have hnb18 := NB132_127.out; have hnc18 := NB127_132.out; obtain ⟨hcz19_0, hcz19_1⟩ := cz2 BK132.out; obtain ⟨hfz19_0, hfz19_1⟩ := fz2 BK132.out; have p133 : 0 ≤ (x13_1 : Int) := uD; have q133 : x13_1 < (l2.length : Int) := uD; obtain ⟨ad133, e133, hx133_0⟩ := Kd.at_int HR2.out x13_1 p133 q133; cases e133; have hn133_0 : ad133.block ≠ gb132 := Nat.ne_of_lt (Nat.lt_of_lt_of_le (bl1 hx133_0) GW132.out); have hn133_1 : ad133.block ≠ gb132 := Nat.ne_of_lt (Nat.lt_of_lt_of_le (bl1 hx133_0) GW132.out); replace hx133_0 := hcell HB.out hx133_0; replace hx133_0 := (cell_far (p := ⟨gb132, 0, none⟩) (fx hn133_0) (.int .i64 ((rd_T23 t128 x13_1).f0))).trans hx133_0; replace hx133_0 := (cell_far (p := ⟨gb132, 1, none⟩) (fx hn133_1) (.int .i64 ((rd_T23 t128 x13_1).f1))).trans hx133_0; (try have hy133_0 := fun (n_ : Nat) => (show ((((w17.drewN n_).setCell ⟨gb132, 0, none⟩ (.int .i64 ((rd_T23 t128 x13_1).f0))).setCell ⟨gb132, 1, none⟩ (.int .i64 ((rd_T23 t128 x13_1).f1)))).cell? _ = some _ from hx133_0)); clear hn133_0; clear hn133_1; replace p133 := eq_true p133; replace q133 := eq_true q133; have p134 : 0 ≤ ((rd l2 x13_1) : Int) := uD; have q134 : (rd l2 x13_1) < (l1.length : Int) := uD; obtain ⟨ad134, e134, hx134_0, hx134_1, hx134_2⟩ := at_T53 HR1.out (rd l2 x13_1) p134 q134; cases e134; have hn134_0 : ad134.block ≠ gb132 := Nat.ne_of_lt (Nat.lt_of_lt_of_le (bl1 hx134_0) GW132.out); have hn134_1 : ad134.block ≠ gb132 := Nat.ne_of_lt (Nat.lt_of_lt_of_le (bl1 hx134_0) GW132.out); replace hx134_0 := hcell HB.out hx134_0; replace hx134_1 := hcell HB.out hx134_1; replace hx134_2 := hcell HB.out hx134_2; replace hx134_0 := (cell_far (p := ⟨gb132, 0, none⟩) (fx hn134_0) (.int .i64 ((rd_T23 t128 x13_1).f0))).trans hx134_0; replace hx134_1 := (cell_far (p := ⟨gb132, 0, none⟩) (fx hn134_0) (.int .i64 ((rd_T23 t128 x13_1).f0))).trans hx134_1; replace hx134_2 := (cell_far (p := ⟨gb132, 0, none⟩) (fx hn134_0) (.int .i64 ((rd_T23 t128 x13_1).f0))).trans hx134_2; replace hx134_0 := (cell_far (p := ⟨gb132, 1, none⟩) (fx hn134_1) (.int .i64 ((rd_T23 t128 x13_1).f1))).trans hx134_0; replace hx134_1 := (cell_far (p := ⟨gb132, 1, none⟩) (fx hn134_1) (.int .i64 ((rd_T23 t128 x13_1).f1))).trans hx134_1; replace hx134_2 := (cell_far (p := ⟨gb132, 1, none⟩) (fx hn134_1) (.int .i64 ((rd_T23 t128 x13_1).f1))).trans hx134_2; (try have hy134_0 := fun (n_ : Nat) => (show ((((w17.drewN n_).setCell ⟨gb132, 0, none⟩ (.int .i64 ((rd_T23 t128 x13_1).f0))).setCell ⟨gb132, 1, none⟩ (.int .i64 ((rd_T23 t128 x13_1).f1)))).cell? _ = some _ from hx134_0)); (try have hy134_1 := fun (n_ : Nat) => (show ((((w17.drewN n_).setCell ⟨gb132, 0, none⟩ (.int .i64 ((rd_T23 t128 x13_1).f0))).setCell ⟨gb132, 1, none⟩ (.int .i64 ((rd_T23 t128 x13_1).f1)))).cell? _ = some _ from hx134_1)); (try have hy134_2 := fun (n_ : Nat) => (show ((((w17.drewN n_).setCell ⟨gb132, 0, none⟩ (.int .i64 ((rd_T23 t128 x13_1).f0))).setCell ⟨gb132, 1, none⟩ (.int .i64 ((rd_T23 t128 x13_1).f1)))).cell? _ = some _ from hx134_2)); clear hn134_0; clear hn134_1; replace p134 := eq_true p134; replace q134 := eq_true q134) | ((with_reducible refine gate_builtin (b := .append) (xs := #[.tmp 29, .tmp 31]) rfl ?_); at_builtin; refine Kd.R_append (Kd.int .i64) (w0 := w) w.heap.size rfl (.tmp 29) (.tmp 31) 25 3 (.int .i64 0) 8 rfl Tryz.underlying25 info3 rfl (by decide) (by omega) u7 x7_1 x13_1 [.int .i64 x13_1] (fun _ => True) (fun _ => False) rfl (by first | (go_simp; done) | (go_simp; rfl)) ?aP (fun _ hk => hk.elim) ?aF ?aO ?aB ?aS ?aL ?_; (case aP => exact rfl); (case aB => exact uB); (case aF => exact (fun _ _ => trivial)); (case aO => exact (by refine uR ?_; exact Kd.R_mono (Kd.R_far (p := ⟨gb132, 1, none⟩) (Kd.R_far (p := ⟨gb132, 0, none⟩) (Kd.R_types HO_7.out BK132.out (by decide)) (fun _ hk => hk.2) (.int .i64 ((rd_T23 t128 x13_1).f0))) (fun _ hk => hk.2) (.int .i64 ((rd_T23 t128 x13_1).f1))) (fun _ hk => trivial))); (case aS => exact (below_size uB)); (case aL => have := LMc16.out; omega); intro v136 w20 ho hb hg hat; rw [← Ny135.out] at ho; replace HO_11 := Aside0.mk (Kd.R_over' (by refine uR ?_; exact (Kd.R_mono (Kd.R_far (p := ⟨gb132, 1, none⟩) (Kd.R_far (p := ⟨gb132, 0, none⟩) (Kd.R_mono HO_11.out (fun k_ hk => (⟨hk, hk.2⟩ : _ ∧ k_ ≠ gb132))) (fun _ hk => hk.2) (.int .i64 ((rd_T23 t128 x13_1).f0))) (fun _ hk => hk.2) (.int .i64 ((rd_T23 t128 x13_1).f1))) (fun _ h_ => h_.1))) (Kd.R_typed (by refine uR ?_; exact (Kd.R_mono (Kd.R_far (p := ⟨gb132, 1, none⟩) (Kd.R_far (p := ⟨gb132, 0, none⟩) (Kd.R_types HO_7.out BK132.out (by decide)) (fun _ hk => hk.2) (.int .i64 ((rd_T23 t128 x13_1).f0))) (fun _ hk => hk.2) (.int .i64 ((rd_T23 t128 x13_1).f1))) (fun _ h_ => h_.1)))) (by decide) hg); replace BK127 := Aside0.mk (blk_grown (g := gb127) (o := .cells #[.int .i64 a0_0, .int .i64 a0_1, .slice A0_2 l0_2.length c0_2, .slice A0_3 l0_3.length c0_3] 27 (0, 0)) (by refine uK ?_; refine blk_far ?_ NB127_132.out _; refine uK ?_; refine blk_far ?_ NB127_132.out _; refine uK ?_; exact BK127.out) hg (Kd.R_ne HO_7.out BK127.out (by decide))); replace BK132 := Aside0.mk (blk_grown (g := gb132) (o := .cells #[.int .i64 ((rd_T23 t128 x13_1).f0), .int .i64 ((rd_T23 t128 x13_1).f1)] 23 (0, 0)) (by refine uK ?_; refine blk_put (cs := #[.int .i64 ((rd_T23 t128 x13_1).f0), .int .i64 0]) ?_ 1 _ rfl; refine uK ?_; refine blk_put (cs := #[.int .i64 0, .int .i64 0]) ?_ 0 _ rfl; refine uK ?_; exact BK132.out) hg (Kd.R_ne HO_7.out BK132.out (by decide))); have HO137 := Aside0.mk (ho); replace HB := Aside0.mk (hb); clear HO_7; clear ho hb hg hat))
     repeat (go_quiet (first | ((with_reducible refine gate_dst (N := 9) rfl ?_); refine bxe 9 #[.int .i64 0, .int .i64 0] 23 ?_; intro gb132 hg w17 hbox hb; have n0_ := Aside0.mk (Kd.R_below (uR HO_7.out) hb); have n1_ := rE HO_11 hg hb; have n2_ := Aside0.mk (blk_below (uK BK127.out) hb); have n3_ := Aside0.mk (below_step uB hb); have n4_ := Aside0.mk (hbox); have n5_ := gw hg; have n6_ := gw hg; have n7_ := nb BK127 hg; have n8_ := nc BK127 hg; clear HO_7; clear HO_11; clear BK127; clear HB; have HO_7 := n0_; have HO_11 := n1_; have BK127 := n2_; have HB := n3_; have BK132 := n4_; have GW132 := n5_; have GE132 := n6_; have NB127_132 := n7_; have NB132_127 := n8_; clear n0_ n1_ n2_ n3_ n4_ n5_ n6_ n7_ n8_; clear hb hbox hg; have hnb18 := NB132_127.out; have hnc18 := NB127_132.out; obtain ⟨hcz19_0, hcz19_1⟩ := cz2 BK132.out; obtain ⟨hfz19_0, hfz19_1⟩ := fz2 BK132.out; have p133 : 0 ≤ (x13_1 : Int) := uD; have q133 : x13_1 < (l2.length : Int) := uD; obtain ⟨ad133, e133, hx133_0⟩ := Kd.at_int HR2.out x13_1 p133 q133; cases e133; have hn133_0 : ad133.block ≠ gb132 := Nat.ne_of_lt (Nat.lt_of_lt_of_le (bl1 hx133_0) GW132.out); have hn133_1 : ad133.block ≠ gb132 := Nat.ne_of_lt (Nat.lt_of_lt_of_le (bl1 hx133_0) GW132.out); replace hx133_0 := hcell HB.out hx133_0; replace hx133_0 := (cell_far (p := ⟨gb132, 0, none⟩) (fx hn133_0) (.int .i64 ((rd_T23 t128 x13_1).f0))).trans hx133_0; replace hx133_0 := (cell_far (p := ⟨gb132, 1, none⟩) (fx hn133_1) (.int .i64 ((rd_T23 t128 x13_1).f1))).trans hx133_0; (try have hy133_0 := fun (n_ : Nat) => (show ((((w17.drewN n_).setCell ⟨gb132, 0, none⟩ (.int .i64 ((rd_T23 t128 x13_1).f0))).setCell ⟨gb132, 1, none⟩ (.int .i64 ((rd_T23 t128 x13_1).f1)))).cell? _ = some _ from hx133_0)); clear hn133_0; clear hn133_1; replace p133 := eq_true p133; replace q133 := eq_true q133; have p134 : 0 ≤ ((rd l2 x13_1) : Int) := uD; have q134 : (rd l2 x13_1) < (l1.length : Int) := uD; obtain ⟨ad134, e134, hx134_0, hx134_1, hx134_2⟩ := at_T53 HR1.out (rd l2 x13_1) p134 q134; cases e134; have hn134_0 : ad134.block ≠ gb132 := Nat.ne_of_lt (Nat.lt_of_lt_of_le (bl1 hx134_0) GW132.out); have hn134_1 : ad134.block ≠ gb132 := Nat.ne_of_lt (Nat.lt_of_lt_of_le (bl1 hx134_0) GW132.out); replace hx134_0 := hcell HB.out hx134_0; replace hx134_1 := hcell HB.out hx134_1; replace hx134_2 := hcell HB.out hx134_2; replace hx134_0 := (cell_far (p := ⟨gb132, 0, none⟩) (fx hn134_0) (.int .i64 ((rd_T23 t128 x13_1).f0))).trans hx134_0; replace hx134_1 := (cell_far (p := ⟨gb132, 0, none⟩) (fx hn134_0) (.int .i64 ((rd_T23 t128 x13_1).f0))).trans hx134_1; replace hx134_2 := (cell_far (p := ⟨gb132, 0, none⟩) (fx hn134_0) (.int .i64 ((rd_T23 t128 x13_1).f0))).trans hx134_2; replace hx134_0 := (cell_far (p := ⟨gb132, 1, none⟩) (fx hn134_1) (.int .i64 ((rd_T23 t128 x13_1).f1))).trans hx134_0; replace hx134_1 := (cell_far (p := ⟨gb132, 1, none⟩) (fx hn134_1) (.int .i64 ((rd_T23 t128 x13_1).f1))).trans hx134_1; replace hx134_2 := (cell_far (p := ⟨gb132, 1, none⟩) (fx hn134_1) (.int .i64 ((rd_T23 t128 x13_1).f1))).trans hx134_2; (try have hy134_0 := fun (n_ : Nat) => (show ((((w17.drewN n_).setCell ⟨gb132, 0, none⟩ (.int .i64 ((rd_T23 t128 x13_1).f0))).setCell ⟨gb132, 1, none⟩ (.int .i64 ((rd_T23 t128 x13_1).f1)))).cell? _ = some _ from hx134_0)); (try have hy134_1 := fun (n_ : Nat) => (show ((((w17.drewN n_).setCell ⟨gb132, 0, none⟩ (.int .i64 ((rd_T23 t128 x13_1).f0))).setCell ⟨gb132, 1, none⟩ (.int .i64 ((rd_T23 t128 x13_1).f1)))).cell? _ = some _ from hx134_1)); (try have hy134_2 := fun (n_ : Nat) => (show ((((w17.drewN n_).setCell ⟨gb132, 0, none⟩ (.int .i64 ((rd_T23 t128 x13_1).f0))).setCell ⟨gb132, 1, none⟩ (.int .i64 ((rd_T23 t128 x13_1).f1)))).cell? _ = some _ from hx134_2)); clear hn134_0; clear hn134_1; replace p134 := eq_true p134; replace q134 := eq_true q134) | ((with_reducible refine gate_builtin (b := .append) (xs := #[.tmp 29, .tmp 31]) rfl ?_); at_builtin; refine Kd.R_append (Kd.int .i64) (w0 := w) w.heap.size rfl (.tmp 29) (.tmp 31) 25 3 (.int .i64 0) 8 rfl Tryz.underlying25 info3 rfl (by decide) (by omega) u7 x7_1 x13_1 [.int .i64 x13_1] (fun _ => True) (fun _ => False) rfl (by first | (go_simp; done) | (go_simp; rfl)) ?aP (fun _ hk => hk.elim) ?aF ?aO ?aB ?aS ?aL ?_; (case aP => exact rfl); (case aB => exact uB); (case aF => exact (fun _ _ => trivial)); (case aO => exact (by refine uR ?_; exact Kd.R_mono (Kd.R_far (p := ⟨gb132, 1, none⟩) (Kd.R_far (p := ⟨gb132, 0, none⟩) (Kd.R_types HO_7.out BK132.out (by decide)) (fun _ hk => hk.2) (.int .i64 ((rd_T23 t128 x13_1).f0))) (fun _ hk => hk.2) (.int .i64 ((rd_T23 t128 x13_1).f1))) (fun _ hk => trivial))); (case aS => exact (below_size uB)); (case aL => have := LMc16.out; omega); intro v136 w20 ho hb hg hat; rw [← Ny135.out] at ho; replace HO_11 := Aside0.mk (Kd.R_over' (by refine uR ?_; exact (Kd.R_mono (Kd.R_far (p := ⟨gb132, 1, none⟩) (Kd.R_far (p := ⟨gb132, 0, none⟩) (Kd.R_mono HO_11.out (fun k_ hk => (⟨hk, hk.2⟩ : _ ∧ k_ ≠ gb132))) (fun _ hk => hk.2) (.int .i64 ((rd_T23 t128 x13_1).f0))) (fun _ hk => hk.2) (.int .i64 ((rd_T23 t128 x13_1).f1))) (fun _ h_ => h_.1))) (Kd.R_typed (by refine uR ?_; exact (Kd.R_mono (Kd.R_far (p := ⟨gb132, 1, none⟩) (Kd.R_far (p := ⟨gb132, 0, none⟩) (Kd.R_types HO_7.out BK132.out (by decide)) (fun _ hk => hk.2) (.int .i64 ((rd_T23 t128 x13_1).f0))) (fun _ hk => hk.2) (.int .i64 ((rd_T23 t128 x13_1).f1))) (fun _ h_ => h_.1)))) (by decide) hg); replace BK127 := Aside0.mk (blk_grown (g := gb127) (o := .cells #[.int .i64 a0_0, .int .i64 a0_1, .slice A0_2 l0_2.length c0_2, .slice A0_3 l0_3.length c0_3] 27 (0, 0)) (by refine uK ?_; refine blk_far ?_ NB127_132.out _; refine uK ?_; refine blk_far ?_ NB127_132.out _; refine uK ?_; exact BK127.out) hg (Kd.R_ne HO_7.out BK127.out (by decide))); replace BK132 := Aside0.mk (blk_grown (g := gb132) (o := .cells #[.int .i64 ((rd_T23 t128 x13_1).f0), .int .i64 ((rd_T23 t128 x13_1).f1)] 23 (0, 0)) (by refine uK ?_; refine blk_put (cs := #[.int .i64 ((rd_T23 t128 x13_1).f0), .int .i64 0]) ?_ 1 _ rfl; refine uK ?_; refine blk_put (cs := #[.int .i64 0, .int .i64 0]) ?_ 0 _ rfl; refine uK ?_; exact BK132.out) hg (Kd.R_ne HO_7.out BK132.out (by decide))); have HO137 := Aside0.mk (ho); replace HB := Aside0.mk (hb); clear HO_7; clear ho hb hg hat)); try go_wp2_with (first | ((with_reducible refine gate_dst (N := 9) rfl ?_); refine bxe 9 #[.int .i64 0, .int .i64 0] 23 ?_; intro gb132 hg w17 hbox hb; have n0_ := Aside0.mk (Kd.R_below (uR HO_7.out) hb); have n1_ := rE HO_11 hg hb; have n2_ := Aside0.mk (blk_below (uK BK127.out) hb); have n3_ := Aside0.mk (below_step uB hb); have n4_ := Aside0.mk (hbox); have n5_ := gw hg; have n6_ := gw hg; have n7_ := nb BK127 hg; have n8_ := nc BK127 hg; clear HO_7; clear HO_11; clear BK127; clear HB; have HO_7 := n0_; have HO_11 := n1_; have BK127 := n2_; have HB := n3_; have BK132 := n4_; have GW132 := n5_; have GE132 := n6_; have NB127_132 := n7_; have NB132_127 := n8_; clear n0_ n1_ n2_ n3_ n4_ n5_ n6_ n7_ n8_; clear hb hbox hg; have hnb18 := NB132_127.out; have hnc18 := NB127_132.out; obtain ⟨hcz19_0, hcz19_1⟩ := cz2 BK132.out; obtain ⟨hfz19_0, hfz19_1⟩ := fz2 BK132.out; have p133 : 0 ≤ (x13_1 : Int) := uD; have q133 : x13_1 < (l2.length : Int) := uD; obtain ⟨ad133, e133, hx133_0⟩ := Kd.at_int HR2.out x13_1 p133 q133; cases e133; have hn133_0 : ad133.block ≠ gb132 := Nat.ne_of_lt (Nat.lt_of_lt_of_le (bl1 hx133_0) GW132.out); have hn133_1 : ad133.block ≠ gb132 := Nat.ne_of_lt (Nat.lt_of_lt_of_le (bl1 hx133_0) GW132.out); replace hx133_0 := hcell HB.out hx133_0; replace hx133_0 := (cell_far (p := ⟨gb132, 0, none⟩) (fx hn133_0) (.int .i64 ((rd_T23 t128 x13_1).f0))).trans hx133_0; replace hx133_0 := (cell_far (p := ⟨gb132, 1, none⟩) (fx hn133_1) (.int .i64 ((rd_T23 t128 x13_1).f1))).trans hx133_0; (try have hy133_0 := fun (n_ : Nat) => (show ((((w17.drewN n_).setCell ⟨gb132, 0, none⟩ (.int .i64 ((rd_T23 t128 x13_1).f0))).setCell ⟨gb132, 1, none⟩ (.int .i64 ((rd_T23 t128 x13_1).f1)))).cell? _ = some _ from hx133_0)); clear hn133_0; clear hn133_1; replace p133 := eq_true p133; replace q133 := eq_true q133; have p134 : 0 ≤ ((rd l2 x13_1) : Int) := uD; have q134 : (rd l2 x13_1) < (l1.length : Int) := uD; obtain ⟨ad134, e134, hx134_0, hx134_1, hx134_2⟩ := at_T53 HR1.out (rd l2 x13_1) p134 q134; cases e134; have hn134_0 : ad134.block ≠ gb132 := Nat.ne_of_lt (Nat.lt_of_lt_of_le (bl1 hx134_0) GW132.out); have hn134_1 : ad134.block ≠ gb132 := Nat.ne_of_lt (Nat.lt_of_lt_of_le (bl1 hx134_0) GW132.out); replace hx134_0 := hcell HB.out hx134_0; replace hx134_1 := hcell HB.out hx134_1; replace hx134_2 := hcell HB.out hx134_2; replace hx134_0 := (cell_far (p := ⟨gb132, 0, none⟩) (fx hn134_0) (.int .i64 ((rd_T23 t128 x13_1).f0))).trans hx134_0; replace hx134_1 := (cell_far (p := ⟨gb132, 0, none⟩) (fx hn134_0) (.int .i64 ((rd_T23 t128 x13_1).f0))).trans hx134_1; replace hx134_2 := (cell_far (p := ⟨gb132, 0, none⟩) (fx hn134_0) (.int .i64 ((rd_T23 t128 x13_1).f0))).trans hx134_2; replace hx134_0 := (cell_far (p := ⟨gb132, 1, none⟩) (fx hn134_1) (.int .i64 ((rd_T23 t128 x13_1).f1))).trans hx134_0; replace hx134_1 := (cell_far (p := ⟨gb132, 1, none⟩) (fx hn134_1) (.int .i64 ((rd_T23 t128 x13_1).f1))).trans hx134_1; replace hx134_2 := (cell_far (p := ⟨gb132, 1, none⟩) (fx hn134_1) (.int .i64 ((rd_T23 t128 x13_1).f1))).trans hx134_2; (try have hy134_0 := fun (n_ : Nat) => (show ((((w17.drewN n_).setCell ⟨gb132, 0, none⟩ (.int .i64 ((rd_T23 t128 x13_1).f0))).setCell ⟨gb132, 1, none⟩ (.int .i64 ((rd_T23 t128 x13_1).f1)))).cell? _ = some _ from hx134_0)); (try have hy134_1 := fun (n_ : Nat) => (show ((((w17.drewN n_).setCell ⟨gb132, 0, none⟩ (.int .i64 ((rd_T23 t128 x13_1).f0))).setCell ⟨gb132, 1, none⟩ (.int .i64 ((rd_T23 t128 x13_1).f1)))).cell? _ = some _ from hx134_1)); (try have hy134_2 := fun (n_ : Nat) => (show ((((w17.drewN n_).setCell ⟨gb132, 0, none⟩ (.int .i64 ((rd_T23 t128 x13_1).f0))).setCell ⟨gb132, 1, none⟩ (.int .i64 ((rd_T23 t128 x13_1).f1)))).cell? _ = some _ from hx134_2)); clear hn134_0; clear hn134_1; replace p134 := eq_true p134; replace q134 := eq_true q134) | ((with_reducible refine gate_builtin (b := .append) (xs := #[.tmp 29, .tmp 31]) rfl ?_); at_builtin; refine Kd.R_append (Kd.int .i64) (w0 := w) w.heap.size rfl (.tmp 29) (.tmp 31) 25 3 (.int .i64 0) 8 rfl Tryz.underlying25 info3 rfl (by decide) (by omega) u7 x7_1 x13_1 [.int .i64 x13_1] (fun _ => True) (fun _ => False) rfl (by first | (go_simp; done) | (go_simp; rfl)) ?aP (fun _ hk => hk.elim) ?aF ?aO ?aB ?aS ?aL ?_; (case aP => exact rfl); (case aB => exact uB); (case aF => exact (fun _ _ => trivial)); (case aO => exact (by refine uR ?_; exact Kd.R_mono (Kd.R_far (p := ⟨gb132, 1, none⟩) (Kd.R_far (p := ⟨gb132, 0, none⟩) (Kd.R_types HO_7.out BK132.out (by decide)) (fun _ hk => hk.2) (.int .i64 ((rd_T23 t128 x13_1).f0))) (fun _ hk => hk.2) (.int .i64 ((rd_T23 t128 x13_1).f1))) (fun _ hk => trivial))); (case aS => exact (below_size uB)); (case aL => have := LMc16.out; omega); intro v136 w20 ho hb hg hat; rw [← Ny135.out] at ho; replace HO_11 := Aside0.mk (Kd.R_over' (by refine uR ?_; exact (Kd.R_mono (Kd.R_far (p := ⟨gb132, 1, none⟩) (Kd.R_far (p := ⟨gb132, 0, none⟩) (Kd.R_mono HO_11.out (fun k_ hk => (⟨hk, hk.2⟩ : _ ∧ k_ ≠ gb132))) (fun _ hk => hk.2) (.int .i64 ((rd_T23 t128 x13_1).f0))) (fun _ hk => hk.2) (.int .i64 ((rd_T23 t128 x13_1).f1))) (fun _ h_ => h_.1))) (Kd.R_typed (by refine uR ?_; exact (Kd.R_mono (Kd.R_far (p := ⟨gb132, 1, none⟩) (Kd.R_far (p := ⟨gb132, 0, none⟩) (Kd.R_types HO_7.out BK132.out (by decide)) (fun _ hk => hk.2) (.int .i64 ((rd_T23 t128 x13_1).f0))) (fun _ hk => hk.2) (.int .i64 ((rd_T23 t128 x13_1).f1))) (fun _ h_ => h_.1)))) (by decide) hg); replace BK127 := Aside0.mk (blk_grown (g := gb127) (o := .cells #[.int .i64 a0_0, .int .i64 a0_1, .slice A0_2 l0_2.length c0_2, .slice A0_3 l0_3.length c0_3] 27 (0, 0)) (by refine uK ?_; refine blk_far ?_ NB127_132.out _; refine uK ?_; refine blk_far ?_ NB127_132.out _; refine uK ?_; exact BK127.out) hg (Kd.R_ne HO_7.out BK127.out (by decide))); replace BK132 := Aside0.mk (blk_grown (g := gb132) (o := .cells #[.int .i64 ((rd_T23 t128 x13_1).f0), .int .i64 ((rd_T23 t128 x13_1).f1)] 23 (0, 0)) (by refine uK ?_; refine blk_put (cs := #[.int .i64 ((rd_T23 t128 x13_1).f0), .int .i64 0]) ?_ 1 _ rfl; refine uK ?_; refine blk_put (cs := #[.int .i64 0, .int .i64 0]) ?_ 0 _ rfl; refine uK ?_; exact BK132.out) hg (Kd.R_ne HO_7.out BK132.out (by decide))); have HO137 := Aside0.mk (ho); replace HB := Aside0.mk (hb); clear HO_7; clear ho hb hg hat)))
     go_roundg k1
     case measure => have := HK1.out; omega
     case rel => exact ⟨(y135), (wrap64 (x13_1 + 1)), u0, H', ⟨by have := HK1.out; omega⟩, ⟨uR HO137.out⟩, ⟨by refine uR ?_; exact Kd.R_mono HO_11.out (fun _ hk => trivial)⟩, ⟨uK BK127.out⟩, ⟨uB⟩⟩
    ·rw [if_neg c15] at H; replace c15 := decide_eq_false c15; have H' := Aside0.mk H; clear H; have p131 : 0 ≤ (x13_1 : Int) := uD; have q131 : x13_1 < (t128.length : Int) := uD; obtain ⟨ad131, e131, hx131_0, hx131_1⟩ := at_T23 (Kd.R_reads' HO_11.out).2.2 x13_1 p131 q131
     cases e131
     replace p131 := eq_true p131; replace q131 := eq_true q131
     go_wp2_with (first | ((with_reducible refine gate_dst (N := 9) rfl ?_); refine bxe 9 #[.int .i64 0, .int .i64 0] 23 ?_; intro gb132 hg w21 hbox hb; have n0_ := Aside0.mk (Kd.R_below (uR HO_7.out) hb); have n1_ := rE HO_11 hg hb; have n2_ := Aside0.mk (blk_below (uK BK127.out) hb); have n3_ := Aside0.mk (below_step uB hb); have n4_ := Aside0.mk (hbox); have n5_ := gw hg; have n6_ := gw hg; have n7_ := nb BK127 hg; have n8_ := nc BK127 hg; clear HO_7; clear HO_11; clear BK127; clear HB; have HO_7 := n0_; have HO_11 := n1_; have BK127 := n2_; have HB := n3_; have BK132 := n4_; have GW132 := n5_; have GE132 := n6_; have NB127_132 := n7_; have NB132_127 := n8_; clear n0_ n1_ n2_ n3_ n4_ n5_ n6_ n7_ n8_; clear hb hbox hg; have hnb22 := NB132_127.out; have hnc22 := NB127_132.out; obtain ⟨hcz23_0, hcz23_1⟩ := cz2 BK132.out; obtain ⟨hfz23_0, hfz23_1⟩ := fz2 BK132.out; have p133 : 0 ≤ (x13_1 : Int) := uD; have q133 : x13_1 < (l2.length : Int) := uD; obtain ⟨ad133, e133, hx133_0⟩ := Kd.at_int HR2.out x13_1 p133 q133; cases e133; have hn133_0 : ad133.block ≠ gb132 := Nat.ne_of_lt (Nat.lt_of_lt_of_le (bl1 hx133_0) GW132.out); have hn133_1 : ad133.block ≠ gb132 := Nat.ne_of_lt (Nat.lt_of_lt_of_le (bl1 hx133_0) GW132.out); replace hx133_0 := hcell HB.out hx133_0; replace hx133_0 := (cell_far (p := ⟨gb132, 0, none⟩) (fx hn133_0) (.int .i64 ((rd_T23 t128 x13_1).f0))).trans hx133_0; replace hx133_0 := (cell_far (p := ⟨gb132, 1, none⟩) (fx hn133_1) (.int .i64 ((rd_T23 t128 x13_1).f1))).trans hx133_0; (try have hy133_0 := fun (n_ : Nat) => (show ((((w21.drewN n_).setCell ⟨gb132, 0, none⟩ (.int .i64 ((rd_T23 t128 x13_1).f0))).setCell ⟨gb132, 1, none⟩ (.int .i64 ((rd_T23 t128 x13_1).f1)))).cell? _ = some _ from hx133_0)); clear hn133_0; clear hn133_1; replace p133 := eq_true p133; replace q133 := eq_true q133; have p134 : 0 ≤ ((rd l2 x13_1) : Int) := uD; have q134 : (rd l2 x13_1) < (l1.length : Int) := uD; obtain ⟨ad134, e134, hx134_0, hx134_1, hx134_2⟩ := at_T53 HR1.out (rd l2 x13_1) p134 q134; cases e134; have hn134_0 : ad134.block ≠ gb132 := Nat.ne_of_lt (Nat.lt_of_lt_of_le (bl1 hx134_0) GW132.out); have hn134_1 : ad134.block ≠ gb132 := Nat.ne_of_lt (Nat.lt_of_lt_of_le (bl1 hx134_0) GW132.out); replace hx134_0 := hcell HB.out hx134_0; replace hx134_1 := hcell HB.out hx134_1; replace hx134_2 := hcell HB.out hx134_2; replace hx134_0 := (cell_far (p := ⟨gb132, 0, none⟩) (fx hn134_0) (.int .i64 ((rd_T23 t128 x13_1).f0))).trans hx134_0; replace hx134_1 := (cell_far (p := ⟨gb132, 0, none⟩) (fx hn134_0) (.int .i64 ((rd_T23 t128 x13_1).f0))).trans hx134_1; replace hx134_2 := (cell_far (p := ⟨gb132, 0, none⟩) (fx hn134_0) (.int .i64 ((rd_T23 t128 x13_1).f0))).trans hx134_2; replace hx134_0 := (cell_far (p := ⟨gb132, 1, none⟩) (fx hn134_1) (.int .i64 ((rd_T23 t128 x13_1).f1))).trans hx134_0; replace hx134_1 := (cell_far (p := ⟨gb132, 1, none⟩) (fx hn134_1) (.int .i64 ((rd_T23 t128 x13_1).f1))).trans hx134_1; replace hx134_2 := (cell_far (p := ⟨gb132, 1, none⟩) (fx hn134_1) (.int .i64 ((rd_T23 t128 x13_1).f1))).trans hx134_2; (try have hy134_0 := fun (n_ : Nat) => (show ((((w21.drewN n_).setCell ⟨gb132, 0, none⟩ (.int .i64 ((rd_T23 t128 x13_1).f0))).setCell ⟨gb132, 1, none⟩ (.int .i64 ((rd_T23 t128 x13_1).f1)))).cell? _ = some _ from hx134_0)); (try have hy134_1 := fun (n_ : Nat) => (show ((((w21.drewN n_).setCell ⟨gb132, 0, none⟩ (.int .i64 ((rd_T23 t128 x13_1).f0))).setCell ⟨gb132, 1, none⟩ (.int .i64 ((rd_T23 t128 x13_1).f1)))).cell? _ = some _ from hx134_1)); (try have hy134_2 := fun (n_ : Nat) => (show ((((w21.drewN n_).setCell ⟨gb132, 0, none⟩ (.int .i64 ((rd_T23 t128 x13_1).f0))).setCell ⟨gb132, 1, none⟩ (.int .i64 ((rd_T23 t128 x13_1).f1)))).cell? _ = some _ from hx134_2)); clear hn134_0; clear hn134_1; replace p134 := eq_true p134; replace q134 := eq_true q134))
     repeat (go_quiet (first | ((with_reducible refine gate_dst (N := 9) rfl ?_); refine bxe 9 #[.int .i64 0, .int .i64 0] 23 ?_; intro gb132 hg w21 hbox hb; have n0_ := Aside0.mk (Kd.R_below (uR HO_7.out) hb); have n1_ := rE HO_11 hg hb; have n2_ := Aside0.mk (blk_below (uK BK127.out) hb); have n3_ := Aside0.mk (below_step uB hb); have n4_ := Aside0.mk (hbox); have n5_ := gw hg; have n6_ := gw hg; have n7_ := nb BK127 hg; have n8_ := nc BK127 hg; clear HO_7; clear HO_11; clear BK127; clear HB; have HO_7 := n0_; have HO_11 := n1_; have BK127 := n2_; have HB := n3_; have BK132 := n4_; have GW132 := n5_; have GE132 := n6_; have NB127_132 := n7_; have NB132_127 := n8_; clear n0_ n1_ n2_ n3_ n4_ n5_ n6_ n7_ n8_; clear hb hbox hg; have hnb22 := NB132_127.out; have hnc22 := NB127_132.out; obtain ⟨hcz23_0, hcz23_1⟩ := cz2 BK132.out; obtain ⟨hfz23_0, hfz23_1⟩ := fz2 BK132.out; have p133 : 0 ≤ (x13_1 : Int) := uD; have q133 : x13_1 < (l2.length : Int) := uD; obtain ⟨ad133, e133, hx133_0⟩ := Kd.at_int HR2.out x13_1 p133 q133; cases e133; have hn133_0 : ad133.block ≠ gb132 := Nat.ne_of_lt (Nat.lt_of_lt_of_le (bl1 hx133_0) GW132.out); have hn133_1 : ad133.block ≠ gb132 := Nat.ne_of_lt (Nat.lt_of_lt_of_le (bl1 hx133_0) GW132.out); replace hx133_0 := hcell HB.out hx133_0; replace hx133_0 := (cell_far (p := ⟨gb132, 0, none⟩) (fx hn133_0) (.int .i64 ((rd_T23 t128 x13_1).f0))).trans hx133_0; replace hx133_0 := (cell_far (p := ⟨gb132, 1, none⟩) (fx hn133_1) (.int .i64 ((rd_T23 t128 x13_1).f1))).trans hx133_0; (try have hy133_0 := fun (n_ : Nat) => (show ((((w21.drewN n_).setCell ⟨gb132, 0, none⟩ (.int .i64 ((rd_T23 t128 x13_1).f0))).setCell ⟨gb132, 1, none⟩ (.int .i64 ((rd_T23 t128 x13_1).f1)))).cell? _ = some _ from hx133_0)); clear hn133_0; clear hn133_1; replace p133 := eq_true p133; replace q133 := eq_true q133; have p134 : 0 ≤ ((rd l2 x13_1) : Int) := uD; have q134 : (rd l2 x13_1) < (l1.length : Int) := uD; obtain ⟨ad134, e134, hx134_0, hx134_1, hx134_2⟩ := at_T53 HR1.out (rd l2 x13_1) p134 q134; cases e134; have hn134_0 : ad134.block ≠ gb132 := Nat.ne_of_lt (Nat.lt_of_lt_of_le (bl1 hx134_0) GW132.out); have hn134_1 : ad134.block ≠ gb132 := Nat.ne_of_lt (Nat.lt_of_lt_of_le (bl1 hx134_0) GW132.out); replace hx134_0 := hcell HB.out hx134_0; replace hx134_1 := hcell HB.out hx134_1; replace hx134_2 := hcell HB.out hx134_2; replace hx134_0 := (cell_far (p := ⟨gb132, 0, none⟩) (fx hn134_0) (.int .i64 ((rd_T23 t128 x13_1).f0))).trans hx134_0; replace hx134_1 := (cell_far (p := ⟨gb132, 0, none⟩) (fx hn134_0) (.int .i64 ((rd_T23 t128 x13_1).f0))).trans hx134_1; replace hx134_2 := (cell_far (p := ⟨gb132, 0, none⟩) (fx hn134_0) (.int .i64 ((rd_T23 t128 x13_1).f0))).trans hx134_2; replace hx134_0 := (cell_far (p := ⟨gb132, 1, none⟩) (fx hn134_1) (.int .i64 ((rd_T23 t128 x13_1).f1))).trans hx134_0; replace hx134_1 := (cell_far (p := ⟨gb132, 1, none⟩) (fx hn134_1) (.int .i64 ((rd_T23 t128 x13_1).f1))).trans hx134_1; replace hx134_2 := (cell_far (p := ⟨gb132, 1, none⟩) (fx hn134_1) (.int .i64 ((rd_T23 t128 x13_1).f1))).trans hx134_2; (try have hy134_0 := fun (n_ : Nat) => (show ((((w21.drewN n_).setCell ⟨gb132, 0, none⟩ (.int .i64 ((rd_T23 t128 x13_1).f0))).setCell ⟨gb132, 1, none⟩ (.int .i64 ((rd_T23 t128 x13_1).f1)))).cell? _ = some _ from hx134_0)); (try have hy134_1 := fun (n_ : Nat) => (show ((((w21.drewN n_).setCell ⟨gb132, 0, none⟩ (.int .i64 ((rd_T23 t128 x13_1).f0))).setCell ⟨gb132, 1, none⟩ (.int .i64 ((rd_T23 t128 x13_1).f1)))).cell? _ = some _ from hx134_1)); (try have hy134_2 := fun (n_ : Nat) => (show ((((w21.drewN n_).setCell ⟨gb132, 0, none⟩ (.int .i64 ((rd_T23 t128 x13_1).f0))).setCell ⟨gb132, 1, none⟩ (.int .i64 ((rd_T23 t128 x13_1).f1)))).cell? _ = some _ from hx134_2)); clear hn134_0; clear hn134_1; replace p134 := eq_true p134; replace q134 := eq_true q134)); try go_wp2_with (first | ((with_reducible refine gate_dst (N := 9) rfl ?_); refine bxe 9 #[.int .i64 0, .int .i64 0] 23 ?_; intro gb132 hg w21 hbox hb; have n0_ := Aside0.mk (Kd.R_below (uR HO_7.out) hb); have n1_ := rE HO_11 hg hb; have n2_ := Aside0.mk (blk_below (uK BK127.out) hb); have n3_ := Aside0.mk (below_step uB hb); have n4_ := Aside0.mk (hbox); have n5_ := gw hg; have n6_ := gw hg; have n7_ := nb BK127 hg; have n8_ := nc BK127 hg; clear HO_7; clear HO_11; clear BK127; clear HB; have HO_7 := n0_; have HO_11 := n1_; have BK127 := n2_; have HB := n3_; have BK132 := n4_; have GW132 := n5_; have GE132 := n6_; have NB127_132 := n7_; have NB132_127 := n8_; clear n0_ n1_ n2_ n3_ n4_ n5_ n6_ n7_ n8_; clear hb hbox hg; have hnb22 := NB132_127.out; have hnc22 := NB127_132.out; obtain ⟨hcz23_0, hcz23_1⟩ := cz2 BK132.out; obtain ⟨hfz23_0, hfz23_1⟩ := fz2 BK132.out; have p133 : 0 ≤ (x13_1 : Int) := uD; have q133 : x13_1 < (l2.length : Int) := uD; obtain ⟨ad133, e133, hx133_0⟩ := Kd.at_int HR2.out x13_1 p133 q133; cases e133; have hn133_0 : ad133.block ≠ gb132 := Nat.ne_of_lt (Nat.lt_of_lt_of_le (bl1 hx133_0) GW132.out); have hn133_1 : ad133.block ≠ gb132 := Nat.ne_of_lt (Nat.lt_of_lt_of_le (bl1 hx133_0) GW132.out); replace hx133_0 := hcell HB.out hx133_0; replace hx133_0 := (cell_far (p := ⟨gb132, 0, none⟩) (fx hn133_0) (.int .i64 ((rd_T23 t128 x13_1).f0))).trans hx133_0; replace hx133_0 := (cell_far (p := ⟨gb132, 1, none⟩) (fx hn133_1) (.int .i64 ((rd_T23 t128 x13_1).f1))).trans hx133_0; (try have hy133_0 := fun (n_ : Nat) => (show ((((w21.drewN n_).setCell ⟨gb132, 0, none⟩ (.int .i64 ((rd_T23 t128 x13_1).f0))).setCell ⟨gb132, 1, none⟩ (.int .i64 ((rd_T23 t128 x13_1).f1)))).cell? _ = some _ from hx133_0)); clear hn133_0; clear hn133_1; replace p133 := eq_true p133; replace q133 := eq_true q133; have p134 : 0 ≤ ((rd l2 x13_1) : Int) := uD; have q134 : (rd l2 x13_1) < (l1.length : Int) := uD; obtain ⟨ad134, e134, hx134_0, hx134_1, hx134_2⟩ := at_T53 HR1.out (rd l2 x13_1) p134 q134; cases e134; have hn134_0 : ad134.block ≠ gb132 := Nat.ne_of_lt (Nat.lt_of_lt_of_le (bl1 hx134_0) GW132.out); have hn134_1 : ad134.block ≠ gb132 := Nat.ne_of_lt (Nat.lt_of_lt_of_le (bl1 hx134_0) GW132.out); replace hx134_0 := hcell HB.out hx134_0; replace hx134_1 := hcell HB.out hx134_1; replace hx134_2 := hcell HB.out hx134_2; replace hx134_0 := (cell_far (p := ⟨gb132, 0, none⟩) (fx hn134_0) (.int .i64 ((rd_T23 t128 x13_1).f0))).trans hx134_0; replace hx134_1 := (cell_far (p := ⟨gb132, 0, none⟩) (fx hn134_0) (.int .i64 ((rd_T23 t128 x13_1).f0))).trans hx134_1; replace hx134_2 := (cell_far (p := ⟨gb132, 0, none⟩) (fx hn134_0) (.int .i64 ((rd_T23 t128 x13_1).f0))).trans hx134_2; replace hx134_0 := (cell_far (p := ⟨gb132, 1, none⟩) (fx hn134_1) (.int .i64 ((rd_T23 t128 x13_1).f1))).trans hx134_0; replace hx134_1 := (cell_far (p := ⟨gb132, 1, none⟩) (fx hn134_1) (.int .i64 ((rd_T23 t128 x13_1).f1))).trans hx134_1; replace hx134_2 := (cell_far (p := ⟨gb132, 1, none⟩) (fx hn134_1) (.int .i64 ((rd_T23 t128 x13_1).f1))).trans hx134_2; (try have hy134_0 := fun (n_ : Nat) => (show ((((w21.drewN n_).setCell ⟨gb132, 0, none⟩ (.int .i64 ((rd_T23 t128 x13_1).f0))).setCell ⟨gb132, 1, none⟩ (.int .i64 ((rd_T23 t128 x13_1).f1)))).cell? _ = some _ from hx134_0)); (try have hy134_1 := fun (n_ : Nat) => (show ((((w21.drewN n_).setCell ⟨gb132, 0, none⟩ (.int .i64 ((rd_T23 t128 x13_1).f0))).setCell ⟨gb132, 1, none⟩ (.int .i64 ((rd_T23 t128 x13_1).f1)))).cell? _ = some _ from hx134_1)); (try have hy134_2 := fun (n_ : Nat) => (show ((((w21.drewN n_).setCell ⟨gb132, 0, none⟩ (.int .i64 ((rd_T23 t128 x13_1).f0))).setCell ⟨gb132, 1, none⟩ (.int .i64 ((rd_T23 t128 x13_1).f1)))).cell? _ = some _ from hx134_2)); clear hn134_0; clear hn134_1; replace p134 := eq_true p134; replace q134 := eq_true q134)))
     go_roundg k1
     case measure => have := HK1.out; omega
     case rel => exact ⟨(x7_1), (wrap64 (x13_1 + 1)), u0, H', ⟨by have := HK1.out; omega⟩, ⟨by refine uR ?_; exact Kd.R_mono (Kd.R_far (p := ⟨gb132, 1, none⟩) (Kd.R_far (p := ⟨gb132, 0, none⟩) (Kd.R_types HO_7.out BK132.out (by decide)) (fun _ hk => hk.2) (.int .i64 ((rd_T23 t128 x13_1).f0))) (fun _ hk => hk.2) (.int .i64 ((rd_T23 t128 x13_1).f1))) (fun _ hk => trivial)⟩, ⟨by refine uR ?_; exact Kd.R_mono (Kd.R_far (p := ⟨gb132, 1, none⟩) (Kd.R_far (p := ⟨gb132, 0, none⟩) (Kd.R_mono HO_11.out (fun k_ hk => (⟨hk, hk.2⟩ : _ ∧ k_ ≠ gb132))) (fun _ hk => hk.2) (.int .i64 ((rd_T23 t128 x13_1).f0))) (fun _ hk => hk.2) (.int .i64 ((rd_T23 t128 x13_1).f1))) (fun _ hk => trivial)⟩, ⟨by refine uK ?_; refine blk_far ?_ NB127_132.out _; refine uK ?_; refine blk_far ?_ NB127_132.out _; refine uK ?_; exact BK127.out⟩, ⟨uB⟩⟩
   ·rw [if_neg c9] at H; replace c9 := decide_eq_false c9; obtain rfl := Option.some.inj H; go_wp2; (repeat (go_quiet (fail); try go_wp2)); go_ret; exact ⟨_, uE, uR HO_7.out, uB⟩
end Go.Proofs.YtdmdahafiiggiabGreatDoor.K
end
section
namespace Go.Proofs.YtdmdahafiiggiabGreatDoor.K
open Go.RowKit Go.Proofs.YtdmdahafiiggiabGreatDoorW.PrintWords Go.Proofs.YtdmdahafiiggiabGreatDoorW.PrintLast Go.Proofs.YtdmdahafiiggiabGreatDoorW.PrintMore
theorem isHeight_any (a b : Int) (w : World) : Calls Tryz.prog 100 #[.agg #[.int .i64 a, .int .i64 b]] w fun e w' => e = .returned (.bool (isSpanB a b 0 1000)) ∧ Below w.heap.size w w' :=
  channel_isHeight.calls a b _ w (by simp [channel_isHeight.f, isSpan_f])
theorem isSiphon1_any (x : S23) (w : World) : Calls Tryz.prog 102 #[.agg #[.int .i64 x.f0, .int .i64 x.f1]] w fun e w' => e = .returned (.bool (!isSpanB x.f0 x.f1 0 1000)) ∧ Below w.heap.size w w' := by
  have hu2 := Tryz.underlying23
  go_enter Tryz.func102, Tryz.ntmps102
  go_wp2_with (go_at_call 100; refine (isHeight_any _ _ _).mono ?_; rintro e w' ⟨rfl, hb⟩)
  go_ret; exact ⟨rfl, below_then ((Below.refl _ _).alloc (Nat.le_refl _) _) (by simp) hb⟩
theorem isSiphon2_any (x : Int) (w : World) : Calls Tryz.prog 103 #[.int .i64 x] w fun e w' => e = .returned (.bool (!inB x 1 100)) ∧ w = w' := by
  go_enter Tryz.func103, Tryz.ntmps103
  go_wp2_with (go_at_call 62; refine (in_any _ _ _ _).mono ?_; rintro e w' ⟨rfl, rfl⟩)
  go_ret; exact ⟨rfl, rfl⟩
def isSiphonB (a b : Int) (pts : List S23) (lens : List Int) : Bool := isSpanB a b 0 1000 && inB pts.length 2 8 && decide ((lens.length : Int) = (pts.length : Int) - 1) && pts.all (fun x => isSpanB x.f0 x.f1 0 1000) && lens.all (fun x => inB x 1 100)
def channel_isSiphon.f (a b : Int) (pts : List S23) (lens : List Int) : Option Bool := if pts.length ≤ 9223372036854775807 ∧ lens.length ≤ 9223372036854775807 then some (isSiphonB a b pts lens) else none
set_option maxRecDepth 100000 in
set_option maxHeartbeats 1000000 in
theorem channel_isSiphon.calls (a0_0 : Int) (a0_1 : Int) (A0_2 : Option Addr) (c0_2 : Nat) (l0_2 : List S23) (A0_3 : Option Addr) (c0_3 : Nat) (l0_3 : List Int) (r : Bool) (w : World) (hr0_2 : Kd.C k23 w A0_2 l0_2.length l0_2) (hc0_2 : l0_2.length ≤ c0_2) (hr0_3 : Kd.C (Kd.int .i64) w A0_3 l0_3.length l0_3) (hc0_3 : l0_3.length ≤ c0_3) (h : channel_isSiphon.f a0_0 a0_1 l0_2 l0_3 = some r) :
    Calls Tryz.prog 55 #[.agg #[.int .i64 a0_0, .int .i64 a0_1, .slice A0_2 l0_2.length c0_2, .slice A0_3 l0_3.length c0_3]] w fun e w' => e = .returned (.bool r) ∧ Below w.heap.size w w' := by
  unfold channel_isSiphon.f at h
  by_cases hl : l0_2.length ≤ 9223372036854775807 ∧ l0_3.length ≤ 9223372036854775807
  case neg => rw [if_neg hl] at h; cases h
  rw [if_pos hl] at h; obtain rfl := Option.some.inj h; clear h; obtain ⟨hl2, hl3⟩ := hl; have hu1 := Tryz.underlying27; have hu2 := Tryz.underlying23; have hmf : ∀ (fn : Fn) (first cap : Array Value) (w : World), (Instr.makeFunc fn first cap).run Tryz.prog w = .ok (.func fn first cap) w := fun _ _ _ _ => rfl; obtain ⟨w1, hw1⟩ : ∃ w1, w.alloc (.cells #[.int .i64 a0_0, .int .i64 a0_1, .slice A0_2 l0_2.length c0_2, .slice A0_3 l0_3.length c0_3] 27) = w1 := ⟨_, rfl⟩; have hB1 : Below w.heap.size w w1 := by rw [← hw1]; exact (Below.refl _ _).alloc (Nat.le_refl _) _
  have hlt : w.heap.size < w1.heap.size := by rw [← hw1]; simp
  have x0 : w1.cell? ⟨w.heap.size, 0, none⟩ = some (.int .i64 a0_0) := by rw [← hw1]; simp [go_sem]
  have x1 : w1.cell? ⟨w.heap.size, 1, none⟩ = some (.int .i64 a0_1) := by rw [← hw1]; simp [go_sem]
  have x2 : w1.cell? ⟨w.heap.size, 2, none⟩ = some (.slice A0_2 l0_2.length c0_2) := by rw [← hw1]; simp [go_sem]
  have x3 : w1.cell? ⟨w.heap.size, 3, none⟩ = some (.slice A0_3 l0_3.length c0_3) := by rw [← hw1]; simp [go_sem]
  have CP : Aside0 (∀ W, Below w1.heap.size w1 W → Calls Tryz.prog 101 #[.slice A0_2 l0_2.length c0_2, .func (.func 102) #[] #[]] W fun e w' => e = .returned (.bool (!l0_2.all (fun x => isSpanB x.f0 x.f1 0 1000))) ∧ Below W.heap.size W w') := ⟨fun W hW => by
    have := contFuncSpan A0_2 c0_2 l0_2 102 #[] (fun x => !isSpanB x.f0 x.f1 0 1000) W (Kd.C_below hr0_2 (below_then hB1 hB1.size hW)) hc0_2 hl2 (enters_of Tryz.func102 (by kernel_rfl) rfl) (fun W' x _ => isSiphon1_any x W')
    rwa [any_not_all] at this⟩
  have CI : Aside0 (∀ W, Below w1.heap.size w1 W → Calls Tryz.prog 60 #[.slice A0_3 l0_3.length c0_3, .func (.func 103) #[] #[]] W fun e w' => e = .returned (.bool (!l0_3.all (fun x => inB x 1 100))) ∧ Below W.heap.size W w') := ⟨fun W hW => by
    have := contFuncInt A0_3 c0_3 l0_3 103 #[] (fun x => !inB x 1 100) W (Kd.C_below hr0_3 (below_then hB1 hB1.size hW)) hc0_3 hl3 (enters_of Tryz.func103 (by kernel_rfl) rfl) (fun W' x _ => (isSiphon2_any x W').mono fun e w' ⟨he, hw⟩ => ⟨he, hw ▸ Below.refl _ _⟩)
    rwa [any_not_all] at this⟩
  clear hr0_2 hr0_3; have n0 : (0 : Int) ≤ (l0_2.length : Int) := by omega
  have n1 : (l0_2.length : Int) ≤ 9223372036854775807 := by omega
  have hcase : isSpanB a0_0 a0_1 0 1000 = false ∨ (isSpanB a0_0 a0_1 0 1000 = true ∧ inB l0_2.length 2 8 = false) ∨ (isSpanB a0_0 a0_1 0 1000 = true ∧ inB l0_2.length 2 8 = true ∧ ¬ ((l0_3.length : Int) = (l0_2.length : Int) - 1)) ∨ (isSpanB a0_0 a0_1 0 1000 = true ∧ inB l0_2.length 2 8 = true ∧ ((l0_3.length : Int) = (l0_2.length : Int) - 1) ∧ l0_2.all (fun x => isSpanB x.f0 x.f1 0 1000) = false) ∨ (isSpanB a0_0 a0_1 0 1000 = true ∧ inB l0_2.length 2 8 = true ∧ ((l0_3.length : Int) = (l0_2.length : Int) - 1) ∧ l0_2.all (fun x => isSpanB x.f0 x.f1 0 1000) = true) := by
    cases isSpanB a0_0 a0_1 0 1000 <;> cases inB l0_2.length 2 8 <;> by_cases h3 : (l0_3.length : Int) = (l0_2.length : Int) - 1 <;> cases l0_2.all (fun x => isSpanB x.f0 x.f1 0 1000) <;> simp [h3]
  have HW1 := Aside0.mk hw1
  rcases hcase with h1 | ⟨h1, h2⟩ | ⟨h1, h2, h3⟩ | ⟨h1, h2, h3, h4⟩ | ⟨h1, h2, h3, h4⟩
  all_goals (try have h3' : ((l0_3.length : Int) == (l0_2.length : Int) - 1) = true := by rw [h3]; simp)
  all_goals (try have h3' : ((l0_3.length : Int) == (l0_2.length : Int) - 1) = false := by rw [beq_eq_false_iff_ne]; exact h3)
  all_goals (try have h3'' : decide ((l0_3.length : Int) = (l0_2.length : Int) - 1) = true := decide_eq_true h3)
  all_goals (try have h3'' : decide ((l0_3.length : Int) = (l0_2.length : Int) - 1) = false := decide_eq_false h3)
  all_goals (try have h3w : wrap64 ((l0_2.length : Int) - 1) = (l0_2.length : Int) - 1 := IntWalk.wrap64_in _ (by omega))
  all_goals
    try rw [h4] at CP
    go_enter Tryz.func55, Tryz.ntmps55
    go_upto_region 1 with (fail)
    try rw [hw1]
    go_wp2_with (first | (go_at_call 100; refine (isHeight_any _ _ _).mono ?_; rintro e w2 ⟨rfl, hb2⟩; have y2 := (hb2.cell (p := ⟨w.heap.size, 2, none⟩) hlt).trans x2; have y3 := (hb2.cell (p := ⟨w.heap.size, 3, none⟩) hlt).trans x3) | (go_at_call 62; refine (in_any _ _ _ _).mono ?_; rintro e w' ⟨rfl, rfl⟩) | (go_at_call 101; refine (CP.out _ hb2).mono ?_; rintro e w3 ⟨rfl, hb3⟩; have z3 := (hb3.cell (p := ⟨w.heap.size, 3, none⟩) (Nat.lt_of_lt_of_le hlt hb2.size)).trans y3) | (go_at_call 60; refine (CI.out _ (below_step hb2 hb3)).mono ?_; rintro e w4 ⟨rfl, hb4⟩))
    go_ret
    first
      | exact ⟨by simp [isSiphonB, *], below_step hB1 (below_step hb2 (below_step hb3 hb4))⟩
      | exact ⟨by simp [isSiphonB, *], below_step hB1 (below_step hb2 hb3)⟩
      | exact ⟨by simp [isSiphonB, *], below_step hB1 hb2⟩
def classB (c : S53) : Bool := inB c.f0 1 1000 && inB c.f1 0 100 && inB c.f2 0 1000
theorem areClasses1_any (x : S53) (w : World) : Calls Tryz.prog 105 #[.agg #[.int .i64 x.f0, .int .i64 x.f1, .int .i64 x.f2]] w fun e w' => e = .returned (.bool (!classB x)) ∧ Below w.heap.size w w' := by
  have hu2 := Tryz.underlying53; obtain ⟨f0, f1, f2⟩ := x
  dsimp only
  have hcase : inB f0 1 1000 = false ∨ (inB f0 1 1000 = true ∧ inB f1 0 100 = false) ∨ (inB f0 1 1000 = true ∧ inB f1 0 100 = true) := by
    cases inB f0 1 1000 <;> cases inB f1 0 100 <;> simp
  rcases hcase with h1 | ⟨h1, h2⟩ | ⟨h1, h2⟩
  all_goals
    go_enter Tryz.func105, Tryz.ntmps105
    go_wp2_with (go_at_call 62; refine (in_any _ _ _ _).mono ?_; rintro e w' ⟨rfl, rfl⟩)
    go_ret; exact ⟨by simp [classB, *], (Below.refl _ _).alloc (Nat.le_refl _) _⟩
def areClassesB (l : List S53) : Bool := inB l.length 1 4 && l.all classB
def channel_areClasses.f (l : List S53) : Option Bool := if l.length ≤ 9223372036854775807 then some (areClassesB l) else none
theorem channel_areClasses.calls (A0 : Option Addr) (c0 : Nat) (l0 : List S53) (r : Bool) (w : World) (hr0 : Kd.C k53 w A0 l0.length l0) (hc0 : l0.length ≤ c0) (h : channel_areClasses.f l0 = some r) :
    Calls Tryz.prog 59 #[.slice A0 l0.length c0] w fun e w' => e = .returned (.bool r) ∧ Below w.heap.size w w' := by
  unfold channel_areClasses.f at h
  by_cases hl : l0.length ≤ 9223372036854775807
  case neg => rw [if_neg hl] at h; cases h
  rw [if_pos hl] at h; obtain rfl := Option.some.inj h; clear h; have hmf : ∀ (fn : Fn) (first cap : Array Value) (w : World), (Instr.makeFunc fn first cap).run Tryz.prog w = .ok (.func fn first cap) w := fun _ _ _ _ => rfl; have CP := contFuncClass A0 c0 l0 105 #[] (fun x => !classB x) w hr0 hc0 hl (enters_of Tryz.func105 (by kernel_rfl) rfl) (fun W' x _ => areClasses1_any x W'); rw [any_not_all] at CP; clear hr0
  cases h1 : inB l0.length 1 4
  all_goals
    go_enter Tryz.func59, Tryz.ntmps59
    go_wp2_with (first | (go_at_call 62; refine (in_any _ _ _ _).mono ?_; rintro e w' ⟨rfl, rfl⟩) | (go_at_call 106; refine CP.mono ?_; rintro e w3 ⟨rfl, hb3⟩))
    go_ret
    first
      | exact ⟨by simp [areClassesB, *], hb3⟩
      | exact ⟨by simp [areClassesB, *], Below.refl _ _⟩
theorem Bursts1_any (x : Int) (B : Nat) (A : Option Addr) (n c : Nat) (hn : n ≤ 4) (W : World) (hcell : W.cell? ⟨B, 0, none⟩ = some (.slice A n c)) :
    Calls Tryz.prog 61 #[.int .i64 x, .pointer (some ⟨B, 0, none⟩)] W fun e w' => e = .returned (.bool (!inB x 0 ((n : Int) - 1))) ∧ W = w' := by
  go_enter Tryz.func61, Tryz.ntmps61
  go_wp2_with (go_at_call 62; refine (in_any _ _ _ _).mono ?_; rintro e w' ⟨rfl, rfl⟩)
  go_ret; exact ⟨rfl, rfl⟩
def choiceB (a b : Int) (pts : List S23) (lens : List Int) (cl : List S53) (ch : List Int) : Bool := isSiphonB a b pts lens && areClassesB cl && decide (ch.length = lens.length) && ch.all (fun c => inB c 0 ((cl.length : Int) - 1))
def channel_Bursts.f (a b : Int) (pts : List S23) (lens : List Int) (cl : List S53) (ch : List Int) : Option (List Int × Int) :=
  if pts.length ≤ 9223372036854775807 ∧ lens.length ≤ 9223372036854775807 ∧ cl.length ≤ 9223372036854775807 ∧ ch.length ≤ 9223372036854775807 then
    if choiceB a b pts lens cl ch = true then (channel_bursts.f 100 a b pts lens cl ch).bind fun l => some (l, 0) else some ([], 2)
  else none
set_option maxRecDepth 100000 in
set_option maxHeartbeats 1000000 in
theorem channel_Bursts.calls (a0_0 : Int) (a0_1 : Int) (A0_2 : Option Addr) (c0_2 : Nat) (l0_2 : List S23) (A0_3 : Option Addr) (c0_3 : Nat) (l0_3 : List Int) (A1 : Option Addr) (c1 : Nat) (l1 : List S53) (A2 : Option Addr) (c2 : Nat) (l2 : List Int) (r1 : List Int) (r2 : Int) (w : World) (hr0_2 : Kd.C k23 w A0_2 l0_2.length l0_2) (hc0_2 : l0_2.length ≤ c0_2) (hr0_3 : Kd.C (Kd.int .i64) w A0_3 l0_3.length l0_3) (hc0_3 : l0_3.length ≤ c0_3) (hr1 : Kd.C k53 w A1 l1.length l1) (hc1 : l1.length ≤ c1) (hr2 : Kd.C (Kd.int .i64) w A2 l2.length l2) (hc2 : l2.length ≤ c2) (h : channel_Bursts.f a0_0 a0_1 l0_2 l0_3 l1 l2 = some (r1, r2)) :
    Calls Tryz.prog 23 #[.agg #[.int .i64 a0_0, .int .i64 a0_1, .slice A0_2 l0_2.length c0_2, .slice A0_3 l0_3.length c0_3], .slice A1 l1.length c1, .slice A2 l2.length c2] w fun e w' => ∃ v0_ : Value, e = .returned (.tuple #[v0_, .int .i64 r2]) ∧ Kd.R (Kd.int .i64) 3 w' w.heap.size (fun _ => True) v0_ r1 ∧ Below w.heap.size w w' := by
  unfold channel_Bursts.f at h
  by_cases hl : l0_2.length ≤ 9223372036854775807 ∧ l0_3.length ≤ 9223372036854775807 ∧ l1.length ≤ 9223372036854775807 ∧ l2.length ≤ 9223372036854775807
  case neg => rw [if_neg hl] at h; cases h
  rw [if_pos hl] at h; have hu1 := Tryz.underlying27; have hmf : ∀ (fn : Fn) (first cap : Array Value) (w : World), (Instr.makeFunc fn first cap).run Tryz.prog w = .ok (.func fn first cap) w := fun _ _ _ _ => rfl; obtain ⟨w1, hw1⟩ : ∃ w1, (w.alloc (.cells #[.int .i64 a0_0, .int .i64 a0_1, .slice A0_2 l0_2.length c0_2, .slice A0_3 l0_3.length c0_3] 27)).alloc (.cells #[.slice A1 l1.length c1] 42) = w1 := ⟨_, rfl⟩; have hB1 : Below w.heap.size w w1 := by rw [← hw1]; exact ((Below.refl _ _).alloc (Nat.le_refl _) _).alloc (by simp) _
  have hlt : w.heap.size + 1 < w1.heap.size := by rw [← hw1]; simp
  have x0 : w1.cell? ⟨w.heap.size, 0, none⟩ = some (.int .i64 a0_0) := by rw [← hw1]; simp [go_sem]
  have x1 : w1.cell? ⟨w.heap.size, 1, none⟩ = some (.int .i64 a0_1) := by rw [← hw1]; simp [go_sem]
  have x2 : w1.cell? ⟨w.heap.size, 2, none⟩ = some (.slice A0_2 l0_2.length c0_2) := by rw [← hw1]; simp [go_sem]
  have x3 : w1.cell? ⟨w.heap.size, 3, none⟩ = some (.slice A0_3 l0_3.length c0_3) := by rw [← hw1]; simp [go_sem]
  have x4 : w1.cell? ⟨w.heap.size + 1, 0, none⟩ = some (.slice A1 l1.length c1) := by rw [← hw1]; simp [go_sem]
  have CS : Aside0 (∀ W, Below w.heap.size w W → Calls Tryz.prog 55 #[.agg #[.int .i64 a0_0, .int .i64 a0_1, .slice A0_2 l0_2.length c0_2, .slice A0_3 l0_3.length c0_3]] W fun e w' => e = .returned (.bool (isSiphonB a0_0 a0_1 l0_2 l0_3)) ∧ Below W.heap.size W w') :=
    ⟨fun W hW => channel_isSiphon.calls a0_0 a0_1 A0_2 c0_2 l0_2 A0_3 c0_3 l0_3 _ W (Kd.C_below hr0_2 hW) hc0_2 (Kd.C_below hr0_3 hW) hc0_3 (by unfold channel_isSiphon.f; rw [if_pos ⟨hl.1, hl.2.1⟩])⟩
  have CC : Aside0 (∀ W, Below w.heap.size w W → Calls Tryz.prog 59 #[.slice A1 l1.length c1] W fun e w' => e = .returned (.bool (areClassesB l1)) ∧ Below W.heap.size W w') :=
    ⟨fun W hW => channel_areClasses.calls A1 c1 l1 _ W (Kd.C_below hr1 hW) hc1 (by unfold channel_areClasses.f; rw [if_pos hl.2.2.1])⟩
  have CI : Aside0 (areClassesB l1 = true → ∀ W, Below w.heap.size w W → W.cell? ⟨w.heap.size + 1, 0, none⟩ = some (.slice A1 l1.length c1) → w.heap.size + 1 < W.heap.size → Calls Tryz.prog 60 #[.slice A2 l2.length c2, .func (.func 61) #[] #[.pointer (some ⟨w.heap.size + 1, 0, none⟩)]] W fun e w' => e = .returned (.bool (!l2.all (fun c => inB c 0 ((l1.length : Int) - 1)))) ∧ Below W.heap.size W w') := ⟨fun hcl W hW hcell hsz => by
    have := contFuncInt A2 c2 l2 61 #[.pointer (some ⟨w.heap.size + 1, 0, none⟩)] (fun c => !inB c 0 ((l1.length : Int) - 1)) W (Kd.C_below hr2 hW) hc2 hl.2.2.2 (enters_of Tryz.func61 (by kernel_rfl) rfl)
      (fun W' x hW' => (Bursts1_any x (w.heap.size + 1) A1 l1.length c1 (by simp [areClassesB, inB] at hcl; omega) W' ((hW'.cell (p := ⟨w.heap.size + 1, 0, none⟩) hsz).trans hcell)).mono fun e w' ⟨he, hw⟩ => ⟨he, hw ▸ Below.refl _ _⟩)
    rwa [any_not_all] at this⟩
  have CB : Aside0 (∀ W l, Below w.heap.size w W → channel_bursts.f 100 a0_0 a0_1 l0_2 l0_3 l1 l2 = some l → Calls Tryz.prog 63 #[.agg #[.int .i64 a0_0, .int .i64 a0_1, .slice A0_2 l0_2.length c0_2, .slice A0_3 l0_3.length c0_3], .slice A1 l1.length c1, .slice A2 l2.length c2] W fun e w' => ∃ v0_ : Value, e = .returned v0_ ∧ Kd.R (Kd.int .i64) 3 w' W.heap.size (fun _ => True) v0_ l ∧ Below W.heap.size W w') :=
    ⟨fun W l hW hl => channel_bursts.calls 100 a0_0 a0_1 A0_2 c0_2 l0_2 A0_3 c0_3 l0_3 A1 c1 l1 A2 c2 l2 l W (Kd.C_below hr0_2 hW) hc0_2 (Kd.C_below hr0_3 hW) hc0_3 (Kd.C_below hr1 hW) hc1 (Kd.C_below hr2 hW) hc2 hl⟩
  clear hr0_2 hr0_3 hr1 hr2; have HW1 := Aside0.mk hw1
  have hcase : (isSiphonB a0_0 a0_1 l0_2 l0_3 = false) ∨ (isSiphonB a0_0 a0_1 l0_2 l0_3 = true ∧ areClassesB l1 = false) ∨ (isSiphonB a0_0 a0_1 l0_2 l0_3 = true ∧ areClassesB l1 = true ∧ ¬ l2.length = l0_3.length) ∨ (isSiphonB a0_0 a0_1 l0_2 l0_3 = true ∧ areClassesB l1 = true ∧ l2.length = l0_3.length ∧ l2.all (fun c => inB c 0 ((l1.length : Int) - 1)) = false) ∨ (isSiphonB a0_0 a0_1 l0_2 l0_3 = true ∧ areClassesB l1 = true ∧ l2.length = l0_3.length ∧ l2.all (fun c => inB c 0 ((l1.length : Int) - 1)) = true) := by
    cases isSiphonB a0_0 a0_1 l0_2 l0_3 <;> cases areClassesB l1 <;> by_cases h3 : l2.length = l0_3.length <;> cases l2.all (fun c => inB c 0 ((l1.length : Int) - 1)) <;> simp [h3]
  have hcb : ∀ (p : Prop), choiceB a0_0 a0_1 l0_2 l0_3 l1 l2 = (isSiphonB a0_0 a0_1 l0_2 l0_3 && areClassesB l1 && decide (l2.length = l0_3.length) && l2.all (fun c => inB c 0 ((l1.length : Int) - 1))) := fun _ => rfl; have HH := Aside0.mk h; clear h
  rcases hcase with h1 | ⟨h1, h2⟩ | ⟨h1, h2, h3⟩ | ⟨h1, h2, h3, h4⟩ | ⟨h1, h2, h3, h4⟩
  all_goals (try have h3' : ((l2.length : Int) == (l0_3.length : Int)) = true := by rw [h3]; simp)
  all_goals (try have h3' : ((l2.length : Int) == (l0_3.length : Int)) = false := by rw [beq_eq_false_iff_ne]; omega)
  all_goals (try have h3e : ((l2.length : Int) = (l0_3.length : Int)) = True := eq_true (by omega))
  all_goals (try have h3e : ((l2.length : Int) = (l0_3.length : Int)) = False := eq_false (by omega))
  all_goals (try have h3'' : (l2.length == l0_3.length) = true := by rw [h3]; simp)
  all_goals (try have h3'' : (l2.length == l0_3.length) = false := by rw [beq_eq_false_iff_ne]; exact h3)
  case inr.inr.inr.inr =>
    have h := HH.out; rw [if_pos (by simp [choiceB, h1, h2, h3, h4])] at h; obtain ⟨l, hl1, h⟩ := Option.bind_eq_some_iff.mp h; obtain ⟨rfl, rfl⟩ := Prod.mk.inj (Option.some.inj h); have HL := Aside0.mk hl1; clear hl1 h; rw [h1] at CS; rw [h2] at CC; rw [h4] at CI; have H3 := Aside0.mk h3; clear h3
    go_enter Tryz.func23, Tryz.ntmps23
    go_upto_region 1 with (fail)
    try rw [hw1]
    go_wp2_with (first | (go_at_call 55; refine (CS.out _ hB1).mono ?_; rintro e w2 ⟨rfl, hb2⟩; have y4 := (hb2.cell (p := ⟨w.heap.size + 1, 0, none⟩) hlt).trans x4) | (go_at_call 59; refine (CC.out _ (below_step hB1 hb2)).mono ?_; rintro e w3 ⟨rfl, hb3⟩; have hb13 := below_step hb2 hb3; have z0 := (hb13.cell (p := ⟨w.heap.size, 0, none⟩) (by simp; omega)).trans x0; have z1 := (hb13.cell (p := ⟨w.heap.size, 1, none⟩) (by simp; omega)).trans x1; have z2 := (hb13.cell (p := ⟨w.heap.size, 2, none⟩) (by simp; omega)).trans x2; have z3 := (hb13.cell (p := ⟨w.heap.size, 3, none⟩) (by simp; omega)).trans x3; have z4 := (hb13.cell (p := ⟨w.heap.size + 1, 0, none⟩) hlt).trans x4; have hsz3 := hb13.size) | (go_at_call 60; refine (CI.out h2 _ (below_step hB1 hb13) z4 (by omega)).mono ?_; rintro e w4 ⟨rfl, hb4⟩; have hb14 := below_step hb13 hb4; have u0 := (hb14.cell (p := ⟨w.heap.size, 0, none⟩) (by simp; omega)).trans x0; have u1 := (hb14.cell (p := ⟨w.heap.size, 1, none⟩) (by simp; omega)).trans x1; have u2 := (hb14.cell (p := ⟨w.heap.size, 2, none⟩) (by simp; omega)).trans x2; have u3 := (hb14.cell (p := ⟨w.heap.size, 3, none⟩) (by simp; omega)).trans x3; have u4 := (hb14.cell (p := ⟨w.heap.size + 1, 0, none⟩) hlt).trans x4) | (go_at_call 63; refine (CB.out _ _ (below_step hB1 hb14) HL.out).mono ?_; rintro e w5 ⟨v5, rfl, hR5, hb5⟩))
    go_ret2
    have hbA := below_step hB1 hb14; exact ⟨_, rfl, Kd.R_lower hR5 hbA.size, below_step hbA hb5⟩
  all_goals
    have h := HH.out; rw [if_neg (by simp [choiceB, *])] at h; obtain ⟨rfl, rfl⟩ := Prod.mk.inj (Option.some.inj h); clear h HH; (try rw [h4] at CI); try (have H3 := Aside0.mk h3; clear h3)
    go_enter Tryz.func23, Tryz.ntmps23
    go_upto_region 1 with (fail)
    try rw [hw1]
    go_wp2_with (first | (go_at_call 55; refine (CS.out _ hB1).mono ?_; rintro e w2 ⟨rfl, hb2⟩; have y4 := (hb2.cell (p := ⟨w.heap.size + 1, 0, none⟩) hlt).trans x4) | (go_at_call 59; refine (CC.out _ (below_step hB1 hb2)).mono ?_; rintro e w3 ⟨rfl, hb3⟩; have hb13 := below_step hb2 hb3; have z2 := (hb13.cell (p := ⟨w.heap.size, 2, none⟩) (by simp; omega)).trans x2; have z3 := (hb13.cell (p := ⟨w.heap.size, 3, none⟩) (by simp; omega)).trans x3; have z4 := (hb13.cell (p := ⟨w.heap.size + 1, 0, none⟩) hlt).trans x4; have hsz3 := hb13.size) | (go_at_call 60; refine (CI.out h2 _ (below_step hB1 hb13) z4 (by omega)).mono ?_; rintro e w4 ⟨rfl, hb4⟩; have hb14 := below_step hb13 hb4))
    go_ret2
    first
      | exact ⟨_, rfl, Kd.R_nil _ _ _ _ _, below_step hB1 hb14⟩
      | exact ⟨_, rfl, Kd.R_nil _ _ _ _ _, below_step hB1 hb13⟩
      | exact ⟨_, rfl, Kd.R_nil _ _ _ _ _, below_step hB1 hb2⟩
end Go.Proofs.YtdmdahafiiggiabGreatDoor.K
end
section
namespace Go.Proofs.YtdmdahafiiggiabGreatDoor.K
open Go.RowKit Go.Proofs.YtdmdahafiiggiabGreatDoorW.PrintWords Go.Proofs.YtdmdahafiiggiabGreatDoorW.PrintLast Go.Proofs.YtdmdahafiiggiabGreatDoorW.PrintMore
structure SiOk (a b : Int) (pts : List S23) (lens : List Int) : Prop where
  a0 : 0 ≤ a
  ab : a ≤ b
  b1 : b ≤ 1000
  n0 : 2 ≤ pts.length
  n1 : pts.length ≤ 8
  ln : lens.length + 1 = pts.length
  pt : ∀ k : Int, 0 ≤ k → k < pts.length → 0 ≤ (rd_T23 pts k).f0 ∧ (rd_T23 pts k).f0 ≤ (rd_T23 pts k).f1 ∧ (rd_T23 pts k).f1 ≤ 1000
  le : ∀ k : Int, 0 ≤ k → k < lens.length → 1 ≤ rd lens k ∧ rd lens k ≤ 100
theorem rd_getElem {l : List Int} {k : Int} (h0 : 0 ≤ k) (h1 : k < l.length) : ∃ h : k.toNat < l.length, rd l k = l[k.toNat] := ⟨by omega, by simp [rd, List.getD, List.getElem?_eq_getElem (show k.toNat < l.length by omega)]⟩
theorem rdSpan_getElem {l : List S23} {k : Int} (h0 : 0 ≤ k) (h1 : k < l.length) : ∃ h : k.toNat < l.length, rd_T23 l k = l[k.toNat] := ⟨by omega, by simp [rd_T23, List.getD, List.getElem?_eq_getElem (show k.toNat < l.length by omega)]⟩
theorem rdClass_getElem {l : List S53} {k : Int} (h0 : 0 ≤ k) (h1 : k < l.length) : ∃ h : k.toNat < l.length, rd_T53 l k = l[k.toNat] := ⟨by omega, by simp [rd_T53, List.getD, List.getElem?_eq_getElem (show k.toNat < l.length by omega)]⟩
theorem siphon_ok {a b : Int} {pts : List S23} {lens : List Int} (h : isSiphonB a b pts lens = true) : SiOk a b pts lens := by
  simp only [isSiphonB, isSpanB, inB, Bool.and_eq_true, decide_eq_true_eq] at h; refine ⟨by omega, by omega, by omega, by omega, by omega, by omega, fun k h0 h1 => ?_, fun k h0 h1 => ?_⟩
  · obtain ⟨hk, e⟩ := rdSpan_getElem h0 h1; have := List.all_eq_true.mp h.1.2 _ (List.getElem_mem hk); rw [← e] at this; simp only [Bool.and_eq_true, decide_eq_true_eq] at this
    omega
  · obtain ⟨hk, e⟩ := rd_getElem h0 h1; have := List.all_eq_true.mp h.2 _ (List.getElem_mem hk); rw [← e] at this; simp only [Bool.and_eq_true, decide_eq_true_eq] at this
    omega
structure ClOk (cl : List S53) : Prop where
  n0 : 1 ≤ cl.length
  n1 : cl.length ≤ 4
  at_ : ∀ k : Int, 0 ≤ k → k < cl.length → 1 ≤ (rd_T53 cl k).f0 ∧ (rd_T53 cl k).f0 ≤ 1000 ∧ 0 ≤ (rd_T53 cl k).f1 ∧ (rd_T53 cl k).f1 ≤ 100 ∧ 0 ≤ (rd_T53 cl k).f2 ∧ (rd_T53 cl k).f2 ≤ 1000
theorem classes_ok {cl : List S53} (h : areClassesB cl = true) : ClOk cl := by
  simp only [areClassesB, inB, Bool.and_eq_true, decide_eq_true_eq] at h; refine ⟨by omega, by omega, fun k h0 h1 => ?_⟩; obtain ⟨hk, e⟩ := rdClass_getElem h0 h1; have := List.all_eq_true.mp h.2 _ (List.getElem_mem hk); rw [← e] at this; simp only [classB, inB, Bool.and_eq_true, decide_eq_true_eq] at this
  omega
def pressN (a b : Int) (pts : List S23) (k : Int) : S23 := ⟨mx 0 (a - mn (rd_T23 pts k).f1 (rd_T23 pts (k + 1)).f1), mx 0 (b - mn (rd_T23 pts k).f0 (rd_T23 pts (k + 1)).f0)⟩
def pressL (a b : Int) (pts : List S23) (n : Nat) : List S23 := (List.range n).map fun (k : Nat) => pressN a b pts (k : Int)
theorem pressL_succ (a b : Int) (pts : List S23) (n : Nat) : pressL a b pts (n + 1) = pressL a b pts n ++ [pressN a b pts (n : Int)] := by simp [pressL, List.range_succ]
theorem pressL_length (a b : Int) (pts : List S23) (n : Nat) : (pressL a b pts n).length = n := by simp [pressL]
theorem pressL_at (a b : Int) (pts : List S23) {n : Nat} {k : Int} (h0 : 0 ≤ k) (h1 : k < n) : rd_T23 (pressL a b pts n) k = pressN a b pts k := by
  obtain ⟨h, e⟩ := rdSpan_getElem (l := pressL a b pts n) h0 (by rw [pressL_length]; exact h1); rw [e]; simp [pressL]; congr 1; omega
theorem mn_le (a b : Int) : mn a b ≤ a ∧ mn a b ≤ b ∧ (mn a b = a ∨ mn a b = b) := by unfold mn; split <;> omega
theorem press_from {a b : Int} {pts : List S23} {lens : List Int} (h : SiOk a b pts lens) : ∀ (d j K : Nat), j + d = lens.length → d < K →
    channel_pressures.l0 K (pressL a b pts j) (lens.length : Int) (j : Int) a b pts lens = some (pressL a b pts lens.length)
  | 0, j, K + 1, hj, hK => by
    unfold channel_pressures.l0; rw [if_neg (by omega)]; rw [show j = lens.length by omega]
  | d + 1, j, K + 1, hj, hK => by
    have hn := h.n1; have hl := h.ln
    unfold channel_pressures.l0; have hw : wrap64 ((j : Int) + 1) = (j : Int) + 1 := IntWalk.wrap64_in _ (by omega); rw [hw, if_pos (by omega), if_pos (by omega), if_pos (by omega), if_pos (by omega), if_pos (by omega), if_pos (by rw [pressL_length]; omega)]; have p1 := h.pt (j : Int) (by omega) (by omega); have p2 := h.pt ((j : Int) + 1) (by omega) (by omega); have m1 := mn_le (rd_T23 pts (j : Int)).f1 (rd_T23 pts ((j : Int) + 1)).f1; have m2 := mn_le (rd_T23 pts (j : Int)).f0 (rd_T23 pts ((j : Int) + 1)).f0; have ha := h.a0; have hb := h.b1; have hab := h.ab
    rw [IntWalk.wrap64_in (a - _) (by omega), IntWalk.wrap64_in (b - _) (by omega)]; have := press_from h d (j + 1) K (by omega) (by omega); rw [pressL_succ] at this
    simpa [pressN] using this
theorem press_eq {a b : Int} {pts : List S23} {lens : List Int} (h : SiOk a b pts lens) (K : Nat) (hK : lens.length < K) : channel_pressures.f K a b pts lens = some (pressL a b pts lens.length) := by
  have := press_from h lens.length 0 K (by omega) hK
  simpa [channel_pressures.f, pressL] using this
def burstL (a b : Int) (pts : List S23) (cl : List S53) (x : List Int) (n : Nat) : List Int := ((List.range n).filter fun (k : Nat) => decide ((rd_T53 cl (rd x (k : Int))).f0 < (pressN a b pts (k : Int)).f1)).map fun (k : Nat) => (k : Int)
theorem burstL_succ (a b : Int) (pts : List S23) (cl : List S53) (x : List Int) (n : Nat) : burstL a b pts cl x (n + 1) = burstL a b pts cl x n ++ (if (rd_T53 cl (rd x (n : Int))).f0 < (pressN a b pts (n : Int)).f1 then [(n : Int)] else []) := by
  unfold burstL; rw [List.range_succ, List.filter_append, List.map_append]
  by_cases h : (rd_T53 cl (rd x (n : Int))).f0 < (pressN a b pts (n : Int)).f1 <;> simp [h]
theorem burstL_len (a b : Int) (pts : List S23) (cl : List S53) (x : List Int) (n : Nat) : (burstL a b pts cl x n).length ≤ n := by
  unfold burstL; rw [List.length_map]; have := List.length_filter_le (fun (k : Nat) => decide ((rd_T53 cl (rd x (k : Int))).f0 < (pressN a b pts (k : Int)).f1)) (List.range n); simpa using this
theorem burst_from {a b : Int} {pts : List S23} {lens : List Int} (h : SiOk a b pts lens) {cl : List S53} {x : List Int} (hx : x.length = lens.length) (hc : ∀ k : Int, 0 ≤ k → k < x.length → 0 ≤ rd x k ∧ rd x k < cl.length) : ∀ (d j K : Nat), j + d = lens.length → d < K →
    channel_bursts.l0 K cl x (burstL a b pts cl x j) (pressL a b pts lens.length) (lens.length : Int) (j : Int) = some (burstL a b pts cl x lens.length)
  | 0, j, K + 1, hj, hK => by
    unfold channel_bursts.l0; rw [if_neg (by omega), show j = lens.length by omega]
  | d + 1, j, K + 1, hj, hK => by
    have hn := h.n1; have hl := h.ln
    have hcj := hc (j : Int) (by omega) (by omega); have hbl := burstL_len a b pts cl x j; unfold channel_bursts.l0; rw [pressL_at a b pts (by omega) (by omega), pressL_length, IntWalk.wrap64_in ((j : Int) + 1) (by omega), if_pos (by omega), if_pos (by omega), if_pos (by omega), if_pos (by omega), if_pos hcj.1, if_pos hcj.2]; have hs := burstL_succ a b pts cl x j; have ih := burst_from h hx hc d (j + 1) K (by omega) (by omega); rw [hs] at ih
    by_cases hb : (rd_T53 cl (rd x (j : Int))).f0 < (pressN a b pts (j : Int)).f1
    · rw [if_pos hb, if_pos (by omega)]; rw [if_pos hb] at ih
      simpa using ih
    · rw [if_neg hb]; rw [if_neg hb] at ih
      simpa using ih
theorem bursts_eq {a b : Int} {pts : List S23} {lens : List Int} (h : SiOk a b pts lens) {cl : List S53} {x : List Int} (hx : x.length = lens.length) (hc : ∀ k : Int, 0 ≤ k → k < x.length → 0 ≤ rd x k ∧ rd x k < cl.length) (K : Nat) (hK : lens.length < K) :
    channel_bursts.f K a b pts lens cl x = some (burstL a b pts cl x lens.length) := by
  unfold channel_bursts.f; rw [press_eq h K hK]; have := burst_from h hx hc lens.length 0 K (by omega) hK; rw [Option.bind_some, pressL_length]
  simpa [burstL] using this
def usedN (lens x : List Int) (c : Int) : Nat → Int
  | 0 => 0
  | k + 1 => if rd x (k : Int) = c then usedN lens x c k + rd lens (k : Int) else usedN lens x c k
def priceN (lens : List Int) (cl : List S53) (x : List Int) : Nat → Int
  | 0 => 0
  | k + 1 => priceN lens cl x k + rd lens (k : Int) * (rd_T53 cl (rd x (k : Int))).f1
def usedL (lens x : List Int) (c n : Nat) : List Int := (List.range c).map fun (d : Nat) => usedN lens x (d : Int) n
def stockB (lens : List Int) (cl : List S53) (x : List Int) : Bool := (List.range cl.length).all fun (d : Nat) => decide (usedN lens x (d : Int) x.length ≤ (rd_T53 cl (d : Int)).f2)
def suffB (a b : Int) (pts : List S23) (lens : List Int) (cl : List S53) (x : List Int) : Bool := stockB lens cl x && (burstL a b pts cl x lens.length).isEmpty
theorem used_range {a b : Int} {pts : List S23} {lens : List Int} (h : SiOk a b pts lens) (x : List Int) (c : Int) : ∀ n : Nat, n ≤ lens.length → 0 ≤ usedN lens x c n ∧ usedN lens x c n ≤ 100 * n
  | 0, _ => by simp [usedN]
  | n + 1, hn => by
    have ih := used_range h x c n (by omega); have := h.le (n : Int) (by omega) (by omega); unfold usedN
    split <;> omega
theorem price_range {a b : Int} {pts : List S23} {lens : List Int} (h : SiOk a b pts lens) {cl : List S53} (hcl : ClOk cl) {x : List Int} (hx : x.length = lens.length) (hc : ∀ k : Int, 0 ≤ k → k < x.length → 0 ≤ rd x k ∧ rd x k < cl.length) : ∀ n : Nat, n ≤ lens.length → 0 ≤ priceN lens cl x n ∧ priceN lens cl x n ≤ 10000 * n
  | 0, _ => by simp [priceN]
  | n + 1, hn => by
    have ih := price_range h hcl hx hc n (by omega); have h1 := h.le (n : Int) (by omega) (by omega); have h2 := hc (n : Int) (by omega) (by omega); have h3 := hcl.at_ _ h2.1 h2.2; unfold priceN; have h4 : 0 ≤ rd lens (n : Int) * (rd_T53 cl (rd x (n : Int))).f1 := Int.mul_nonneg (by omega) (by omega); have h5 : rd lens (n : Int) * (rd_T53 cl (rd x (n : Int))).f1 ≤ 100 * 100 := Int.mul_le_mul (by omega) (by omega) (by omega) (by omega)
    omega
theorem usedL_zero (lens x : List Int) (c : Nat) : usedL lens x c 0 = List.replicate c 0 := by
  apply List.ext_getElem
  · simp [usedL]
  · intro i h1 h2; simp [usedL, usedN]
theorem usedL_length (lens x : List Int) (c n : Nat) : (usedL lens x c n).length = c := by simp [usedL]
theorem usedL_at (lens x : List Int) (c n : Nat) {d : Int} (h0 : 0 ≤ d) (h1 : d < c) : rd (usedL lens x c n) d = usedN lens x d n := by
  obtain ⟨h, e⟩ := rd_getElem (l := usedL lens x c n) h0 (by rw [usedL_length]; exact h1); rw [e]; simp [usedL]; congr 1; omega
theorem usedL_succ (lens x : List Int) (c n : Nat) (h0 : 0 ≤ rd x (n : Int)) (h1 : rd x (n : Int) < c) : usedL lens x c (n + 1) = (usedL lens x c n).set (rd x (n : Int)).toNat (usedN lens x (rd x (n : Int)) n + rd lens (n : Int)) := by
  apply List.ext_getElem
  · simp [usedL]
  · intro i h2 h3; rw [List.getElem_set]; simp only [usedL, List.getElem_map, List.getElem_range, usedN]
    by_cases e : rd x (n : Int) = (i : Int)
    · rw [if_pos e, if_pos (by omega), e]
    · rw [if_neg e, if_neg (by omega)]
end Go.Proofs.YtdmdahafiiggiabGreatDoor.K
end
section
namespace Go.Proofs.YtdmdahafiiggiabGreatDoor.K
open Go.RowKit Go.Shelf Go.Proofs.YtdmdahafiiggiabGreatDoorW.PrintWords Go.Proofs.YtdmdahafiiggiabGreatDoorW.PrintLast Go.Proofs.YtdmdahafiiggiabGreatDoorW.PrintMore
def onlyN (Q : Exit → Act → World → Prop) : Exit → Act → World → Prop
  | .normal, a, w => Q .normal a w
  | _, _, _ => False
def noDefer (ops : Array Oper) : Bool := ops.all fun o => match o.op with
  | .defer _ => false
  | _ => true
theorem noDefer_at {ops : Array Oper} (h : noDefer ops = true) {i : Nat} {o : Oper} (ho : ops[i]? = some o) : ∀ c, o.op ≠ .defer c := by
  intro c hc; have := (Array.all_eq_true_iff_forall_mem.1 h) o (Array.mem_of_getElem? ho); rw [hc] at this
  cases this
theorem callsIn_wide_r {l n : Nat} {P : Program} {f : FuncId} {args : Array Value} {w : World} {R : Ending → World → Prop} (h : Calls P f args w R) : CallsIn (Fence.wide.inRound l) n P f args w R := CallsIn.inRound l (callsIn_wide.2 h)
theorem rowsIn_wide_r {l n : Nat} {P : Program} {row : String} {args : Array Value} {w : World} {R : Value → World → Prop} (h : Rows P row args w R) : RowsIn (Fence.wide.inRound l) n P row args w R :=
  fun c cs _ => let ⟨v, w', r, s⟩ := h c cs; ⟨v, w', r, (stepsIn_wide (P := P)).2 s⟩
theorem wpOpIn_of_wpOp {l n : Nat} {P : Program} {ops : Array Oper} (hd : noDefer ops = true) {Q : Exit → Act → World → Prop} (hQ : ∀ a w, ¬ Q .outgrown a w) {i : Nat} {K : Act → World → Prop} {a : Act} {w : World} (h : wpOp P ops Q i K a w) : wpOpIn (Fence.wide.inRound l) n P ops Q i K a w := by
  unfold wpOp at h; unfold wpOpIn
  split
  · rename_i he; rw [he] at h; exact h
  · rename_i o ho
    rw [ho] at h; simp only at h
    split
    · rename_i hw
      rw [if_pos hw] at h; have h := h.resolve_right (fun hn => by obtain ⟨a, w, hx⟩ := hn.2; exact hQ a w hx); unfold Oper.wp at h; unfold Oper.wpIn; refine ⟨fun _ _ => trivial, ?_⟩; rw [Oper.semAt_eq _ _ _ (noDefer_at hd ho)]; generalize (execOp a.eval o).run P w = r at h ⊢
      cases r with
      | ok x w' =>
        cases x <;> simp only [Oper.upon, Oper.uponIn] at h ⊢ <;>
          first
            | exact h
            | exact ⟨fun h0 => (by cases h0), (callsIn_wide_r h).mono fun e w he => by cases e <;> exact he⟩
            | exact ⟨fun h0 => (by cases h0), rowsIn_wide_r h⟩
            | exact h.elim
      | halt x w' => cases x <;> simp only [Oper.upon, Oper.uponIn] at h ⊢ <;> exact h
    · rename_i hw
      rw [if_neg hw] at h; exact ⟨fun _ _ => trivial, h⟩
theorem wpAnyIn_of_wpAny {l n : Nat} {P : Program} {md : Region.Mode} {ops : Array Oper} (hd : noDefer ops = true) {Q : Exit → Act → World → Prop} (hQ : ∀ a w, ¬ Q .outgrown a w) : ∀ (fuel : Nat) (listed : Array Bool) (a : Act) (w : World), wpAny P md ops Q fuel listed a w → wpAnyIn (Fence.wide.inRound l) n P md ops Q fuel listed a w
  | 0, _, _, _, h => h
  | fuel + 1, listed, a, w, h => ⟨h.1, fun i hi => wpOpIn_mono (fun a w => wpAnyIn_of_wpAny hd hQ fuel _ a w) (wpOpIn_of_wpOp hd hQ (h.2 i hi))⟩
theorem startR_ {l id n m : Nat} {P : Program} {ops : Array Oper} {Q : Exit → Act → World → Prop} {S : World → Prop} {ds : List Nat} {a : Act} {w : World} (lst : Array Bool) (hm : P.follows .mixedOrders = true) (hd : noDefer ops = true) (hn : ops.size = m) (hl : Array.replicate m false = lst) (hS : S w.drew)
    (h : S w.drew → wpAnyLast P .any ops (onlyN Q) S ds m lst a w.drew) : (Code.region id ops true).wpIn (Fence.wide.inRound l) n P Q a w := by
  subst hn; subst hl; refine wpIn_mono (wpIn_region_any hm (wpAnyIn_of_wpAny hd (Q := onlyN Q) (fun _ _ h => h) _ _ _ _ (wpAny_of_last _ _ _ _ (h hS)))) ?_; intro e a w h
  cases e with
  | normal => exact h
  | _ => exact h.elim
theorem startN_ {id n m : Nat} {P : Program} {ops : Array Oper} {Q : Exit → Act → World → Prop} {S : World → Prop} {ds : List Nat} {a : Act} {w : World} (lst : Array Bool) (hm : P.follows .mixedOrders = true) (hn : ops.size = m) (hl : Array.replicate m false = lst) (hS : S w.drew)
    (h : S w.drew → wpAnyLast P .any ops (onlyN Q) S ds m lst a w.drew) : (Code.region id ops true).wpIn Fence.wide n P Q a w := by
  refine wpIn_mono (wpIn_wide.2 (start_ (Q := onlyN Q) lst hm hn hl hS h)) ?_; intro e a w h
  cases e with
  | normal => exact h
  | _ => exact h.elim
end Go.Proofs.YtdmdahafiiggiabGreatDoor.K
end
section
namespace Go.Proofs.YtdmdahafiiggiabGreatDoor.K
open Go.RowKit Go.Shelf Go.Proofs.YtdmdahafiiggiabGreatDoorW.PrintWords Go.Proofs.YtdmdahafiiggiabGreatDoorW.PrintLast Go.Proofs.YtdmdahafiiggiabGreatDoorW.PrintMore
attribute [local go_sem] Oper.semAt_some
set_option maxHeartbeats 1000000 in
theorem choices_any (s c : Int) (w : World) :
    Calls Tryz.prog 109 #[.int .i64 s, .int .i64 c] w fun e w' => e = .returned (.func (.func 129) #[] #[.pointer (some ⟨w.heap.size, 0, none⟩), .pointer (some ⟨w.heap.size + 1, 0, none⟩)]) ∧ w' = (w.alloc (.cells #[.int .i64 s] 3)).alloc (.cells #[.int .i64 c] 3) := by
  have hmf : ∀ (fn : Fn) (first cap : Array Value) (w : World), (Instr.makeFunc fn first cap).run Tryz.prog w = .ok (.func fn first cap) w := fun _ _ _ _ => rfl
  go_enter Tryz.func109, Tryz.ntmps109
  go_wp2; go_ret; exact ⟨rfl, rfl⟩
set_option maxRecDepth 100000 in
set_option maxHeartbeats 1000000 in
theorem enough_any (a b : Int) (A2 A3 A1 : Option Addr) (n2 n3 n1 c2 c3 c1 : Nat) (w : World) :
    Calls Tryz.prog 65 #[.agg #[.int .i64 a, .int .i64 b, .slice A2 n2 c2, .slice A3 n3 c3], .slice A1 n1 c1] w fun e w' => e = .returned (.func (.func 108) #[] #[.pointer (some ⟨w.heap.size, 0, none⟩), .pointer (some ⟨w.heap.size + 1, 0, none⟩)]) ∧ w' = (w.alloc (.cells #[.int .i64 a, .int .i64 b, .slice A2 n2 c2, .slice A3 n3 c3] 27)).alloc (.cells #[.slice A1 n1 c1] 42) := by
  have hu1 := Tryz.underlying27; have hmf : ∀ (fn : Fn) (first cap : Array Value) (w : World), (Instr.makeFunc fn first cap).run Tryz.prog w = .ok (.func fn first cap) w := fun _ _ _ _ => rfl
  go_enter Tryz.func65, Tryz.ntmps65
  go_wp2; go_ret; exact ⟨rfl, rfl⟩
def AtP (B : Nat) (W : World) (x : List Int × Int) (v : Array Value) : Prop := ∃ sl, v = #[.agg #[sl, .int .i64 x.2]] ∧ OwnI W B sl x.1
def filtP (a b : Int) (pts : List S23) (lens : List Int) (cl : List S53) (l : List (List Int)) : List (List Int × Int) := (l.filter (suffB a b pts lens cl)).map fun x => (x, priceN lens cl x x.length)
theorem filtP_snoc (a b : Int) (pts : List S23) (lens : List Int) (cl : List S53) (l : List (List Int)) (x : List Int) : filtP a b pts lens cl (l ++ [x]) = filtP a b pts lens cl l ++ if suffB a b pts lens cl x = true then [(x, priceN lens cl x x.length)] else [] := by
  unfold filtP; rw [List.filter_append, List.map_append]; by_cases h : suffB a b pts lens cl x = true <;> simp [h]
theorem filtP_rest {a b : Int} {pts : List S23} {lens : List Int} {cl : List S53} {l pre : List (List Int)} {x : List Int} (h : ∃ rest, l = pre ++ x :: rest) (hs : suffB a b pts lens cl x = true) : ∃ rest, filtP a b pts lens cl l = filtP a b pts lens cl pre ++ (x, priceN lens cl x x.length) :: rest := by
  obtain ⟨rest, rfl⟩ := h; refine ⟨filtP a b pts lens cl rest, ?_⟩; unfold filtP; rw [List.filter_append, List.map_append, List.filter_cons, if_pos hs]; rfl
theorem OwnI.kb {W W1 : World} {base : Nat} {v : Value} {xs : List Int} {M : Nat → Prop} (h : OwnI W base v xs) (hk : KB M W W1) (hM : ∀ k, M k → k < base) : OwnI W1 base v xs :=
  Kd.R_of_own (own_move (Kd.own_of_R h) (fun k e => by have := OwnI.blk h e; exact hk.block _ this.2 (fun e2 => by have := hM _ e2; omega))) (fun _ _ => trivial)
theorem KB.step {M N : Nat → Prop} {A B C : World} (h : KB M A B) (k : KB N B C) (hN : ∀ i, i < A.heap.size → N i → M i) : KB M A C :=
  ⟨k.os.trans h.os, k.tape.trans h.tape, k.output.trans h.output, Nat.le_trans h.size k.size, fun i hi hm => (k.block i (Nat.lt_of_lt_of_le hi h.size) (fun hn => hm (hN i hi hn))).trans (h.block i hi hm)⟩
theorem mem_tails (c : Nat) : ∀ (m : Nat) (x : List Int), x ∈ tails c m ↔ x.length = m ∧ ∀ a ∈ x, 0 ≤ a ∧ a < c
  | 0, x => by
    simp only [tails, List.mem_singleton]
    constructor
    · rintro rfl; simp
    · intro h; exact List.eq_nil_of_length_eq_zero h.1
  | m + 1, x => by
    simp only [tails, List.mem_flatMap, List.mem_range, List.mem_map]
    constructor
    · rintro ⟨d, hd, r, hr, rfl⟩; obtain ⟨h1, h2⟩ := (mem_tails c m r).1 hr; refine ⟨by simp [h1], fun a ha => ?_⟩
      rcases List.mem_cons.1 ha with rfl | ha
      · omega
      · exact h2 a ha
    · rintro ⟨h1, h2⟩
      cases x with
      | nil => simp at h1
      | cons a x =>
        have ha := h2 a List.mem_cons_self; refine ⟨a.toNat, by omega, x, (mem_tails c m x).2 ⟨by simpa using h1, fun b hb => h2 b (List.mem_cons_of_mem _ hb)⟩, ?_⟩; rw [Int.toNat_of_nonneg ha.1]
theorem tails_at {c m : Nat} {x : List Int} (h : x ∈ tails c m) : x.length = m ∧ ∀ k : Int, 0 ≤ k → k < x.length → 0 ≤ rd x k ∧ rd x k < c := by
  obtain ⟨h1, h2⟩ := (mem_tails c m x).1 h; refine ⟨h1, fun k h0 hk => ?_⟩; obtain ⟨hk', e⟩ := rd_getElem h0 hk; rw [e]; exact h2 _ (List.getElem_mem hk')
set_option maxRecDepth 100000 in
set_option maxHeartbeats 2000000 in
theorem enough1_seq (n : Nat) (h1 : 1 ≤ n) (S0 C0 : Nat) (a b : Int) (A2 A3 A1 : Option Addr) (c2 c3 c1 : Nat) (pts : List S23) (lens : List Int) (cl : List S53) (w : World) (hsi : isSiphonB a b pts lens = true) (hcl : areClassesB cl = true)
    (hS : w.heap[S0]? = some (.cells #[.int .i64 a, .int .i64 b, .slice A2 pts.length c2, .slice A3 lens.length c3] 27 (0, 0))) (hC : w.heap[C0]? = some (.cells #[.slice A1 cl.length c1] 42 (0, 0)))
    (hr2 : Kd.C k23 w A2 pts.length pts) (hc2 : pts.length ≤ c2) (hr3 : Kd.C (Kd.int .i64) w A3 lens.length lens) (hc3 : lens.length ≤ c3) (hr1 : Kd.C k53 w A1 cl.length cl) (hc1 : cl.length ≤ c1) :
    SeqM Fence.wide n Tryz.prog 108 #[.pointer (some ⟨S0, 0, none⟩), .pointer (some ⟨C0, 0, none⟩)] 9 (fun k => k < w.heap.size) AtP (filtP a b pts lens cl (tails cl.length lens.length)) w := by
  intro l M J W hkw hC0 hM hJ hY h0; have hB : Below w.heap.size w W := hkw.below (Nat.le_refl _) (fun k hk hn => hn hk); have hlS := blk_lt hS; have hlC := blk_lt hC; have hSW : W.heap[S0]? = some (.cells #[.int .i64 a, .int .i64 b, .slice A2 pts.length c2, .slice A3 lens.length c3] 27 (0, 0)) := (hB.block _ hlS).trans hS; have hCW : W.heap[C0]? = some (.cells #[.slice A1 cl.length c1] 42 (0, 0)) := (hB.block _ hlC).trans hC; have si := siphon_ok hsi; have ck := classes_ok hcl; have hu1 := Tryz.underlying27; obtain ⟨W1, hW1⟩ : ∃ W1, W.alloc (.cells #[.func (.yield l) #[] #[]] 140) = W1 := ⟨_, rfl⟩; have hS1 := blk_alloc hSW (.cells #[.func (.yield l) #[] #[]] 140); have hC1 := blk_alloc hCW (.cells #[.func (.yield l) #[] #[]] 140); have hz1 : W1.heap.size = W.heap.size + 1 := by rw [← hW1]; exact World.size_alloc _ _
  rw [hW1] at hS1 hC1; have y0 : W1.cell? ⟨S0, 2, none⟩ = some (.slice A2 pts.length c2) := (blk_cell hS1 2).trans rfl; have y1 : W1.cell? ⟨S0, 3, none⟩ = some (.slice A3 lens.length c3) := (blk_cell hS1 3).trans rfl; have y2 : W1.cell? ⟨C0, 0, none⟩ = some (.slice A1 cl.length c1) := (blk_cell hC1 0).trans rfl; have H0 := Aside0.mk (And.intro h0 (And.intro hB (And.intro hS1 hC1))); clear h0 hB hS1 hC1 hSW hCW; refine callsIn_of_wp_marks Tryz.func108 rfl trivial ?_ rfl; simp only [Tryz.ntmps108, List.size_toArray, List.length_cons, List.length_nil, Nat.reduceAdd, Nat.reduceSub, Array.replicate_succ, Array.replicate_zero, List.push_toArray, List.append_toArray, List.nil_append, List.cons_append]
  gi_wp2
  refine wpIn_wide.2 (wp_scope_straight ((wpIn_wide (n := n)).1 ?_)); refine wpIn_seq (wpIn_label ?_); try rw [hW1]
  gi_wp2
  refine ⟨trivial, ?_⟩; refine (callsIn_wide.2 (choices_any _ _ _)).mono ?_; rintro e w2 ⟨rfl, rfl⟩
  gi_wp2
  obtain ⟨W3, hW3⟩ : ∃ W3, (W1.alloc (.cells #[.int .i64 lens.length] 3)).alloc (.cells #[.int .i64 cl.length] 3) = W3 := ⟨_, rfl⟩; rw [hW3]; have hz3 : W3.heap.size = W.heap.size + 3 := by rw [← hW3]; simp [hz1]
  have hk3 : ∀ N : Nat → Prop, KB N W W3 := fun N => by rw [← hW3, ← hW1]; exact ((KB.alloc W _).trans (KB.alloc _ _)).trans (KB.alloc _ _)
  have hseg : W3.heap[W.heap.size + 1]? = some (.cells #[.int .i64 lens.length] 3 (0, 0)) := by
    rw [← hW3, ← hz1]; exact blk_alloc (blk_new _ _) _
  have hcls : W3.heap[W.heap.size + 1 + 1]? = some (.cells #[.int .i64 cl.length] 3 (0, 0)) := by
    have := blk_new (W1.alloc (.cells #[.int .i64 lens.length] 3)) (.cells #[.int .i64 cl.length] 3); rw [World.size_alloc, hz1, hW3] at this; exact this
  have hyb : W3.heap[W.heap.size]? = some (.cells #[.func (.yield l) #[] #[]] 140 (0, 0)) := by
    rw [← hW3, ← hW1]; exact blk_alloc (blk_alloc (blk_new _ _) _) _
  clear y0 y1 y2; have hsz := H0.out.2.1.size; have n0 := si.n0; have n1 := si.n1; have n2 := si.ln; have n3 := ck.n0; have n4 := ck.n1
  have hseq := choices1_seq (n - 1) (W.heap.size + 1) (W.heap.size + 1 + 1) lens.length cl.length (by omega) (by omega) W3 hseg hcls
  refine wpIn_rangeM rfl h1 (gf := 129) rfl trivial (enters_of Tryz.func129 (by kernel_rfl) rfl) hseq M (KB.refl _ _) (fun k hk => by rcases hk with rfl | rfl <;> omega) (fun k hk => ⟨by have := (hM k hk).1; omega, fun e => by have := (hM k hk).1; omega⟩) (fun B W x v h => by obtain ⟨sl, rfl, _⟩ := h; rfl)
    (fun pre W' => J (filtP a b pts lens cl pre) W' ∧ W'.heap[W.heap.size]? = some (.cells #[.func (.yield l) #[] #[]] 140 (0, 0)) ∧ Below w.heap.size w W')
    (fun pre x a₁ W' => (J (filtP a b pts lens cl pre) W' ∧ W'.heap[W.heap.size]? = some (.cells #[.func (.yield l) #[] #[]] 140 (0, 0)) ∧ Below w.heap.size w W') ∧ ∃ sl, a₁ = { tmps := #[.func (.yield l) #[] #[], .pointer (some ⟨S0, 0, none⟩), .pointer (some ⟨C0, 0, none⟩), .pointer (some ⟨W.heap.size, 0, none⟩), sl, undef, undef, undef, undef, undef, undef, .pointer (some ⟨S0, 3, none⟩), .slice A3 lens.length c3, .int .i64 lens.length, .slice A1 cl.length c1, .int .i64 cl.length, .func (.func 129) #[] #[.pointer (some ⟨W.heap.size + 1, 0, none⟩), .pointer (some ⟨W.heap.size + 1 + 1, 0, none⟩)], sl, undef, undef, undef, undef, undef, undef, undef, undef, undef, undef, undef, undef, undef, undef, undef, undef, undef, undef, undef, undef, undef, undef, undef, undef, undef, undef, undef, undef, undef, undef, undef, undef, undef, undef, undef, undef, undef, undef, undef, undef, undef, undef, undef, undef, undef, undef, undef, undef, undef, undef, undef, undef, undef, undef, undef, undef, undef, undef, undef, undef, undef, undef, undef, undef], defers := [] } ∧ OwnI W' (W.heap.size + 9) sl x)
    ?sI ?sM ?h0 ?assign ?body ?done
  case sI =>
    rintro pre A A' ⟨hj, hy, hb⟩ hs hk; exact ⟨hJ _ _ _ hj (by omega) (hk.mono fun k _ h => ⟨by omega, by omega⟩), hk.at hy (by omega), hb.trans (hk.below (by omega) (fun k hkk h => by omega))⟩
  case sM =>
    rintro pre x a1 A A' ⟨⟨hj, hy, hb⟩, sl, rfl, ho⟩ hs hk; exact ⟨⟨hJ _ _ _ hj (by omega) (hk.mono fun k _ h => ⟨by omega, by omega⟩), hk.at hy (by omega), hb.trans (hk.below (by omega) (fun k hkk h => by omega))⟩, sl, rfl, ho.kb hk (fun k h => by omega)⟩
  case h0 =>
    exact ⟨hJ _ _ _ H0.out.1 (Nat.le_refl _) (hk3 _), hyb, H0.out.2.1.trans ((hk3 (fun _ => False)).below (by omega) (fun k hkk h => h))⟩
  case assign =>
    rintro l' pre x v W' hI hs ⟨sl, rfl, ho⟩ hrest
    gi_wp2
    refine ⟨KB.refl _ _, hI, sl, rfl, ?_⟩; rw [hz3] at ho; exact ho
  case done =>
    rintro W' ⟨hj, hy, hb⟩ hk hD
    gi_wp2
    refine ⟨by simp, .inl ⟨_, _, rfl, run_takeDeferred hD, ?_⟩⟩; exact ⟨_, results_none rfl _ _ _, ⟨_, rfl⟩, hJ _ _ _ hj (Nat.le_trans (by omega) hk.size) (KB.putObj _ _ _ fun _ => ⟨by omega, by omega⟩), KB.step ((hk3 M).trans hk) (KB.putObj (M := fun k => k = W3.heap.size) _ _ _ fun _ => rfl) (fun i hi e => by omega)⟩
  case body =>
    rintro l' pre x a1 Wb ⟨⟨hj, hy, hb⟩, sl, rfl, ho⟩ hs hrest; have hmem : x ∈ tails cl.length lens.length := by obtain ⟨r, e⟩ := hrest; rw [e]; simp
    obtain ⟨hxl, hxr⟩ := tails_at hmem; obtain ⟨g, cx, rfl, hg1, hg2, hg3⟩ := own_form ho (by omega); have hSb := (hb.block _ hlS).trans hS; have hCb := (hb.block _ hlC).trans hC; have y2 : Wb.cell? ⟨C0, 0, none⟩ = some (.slice A1 cl.length c1) := (blk_cell hCb 0).trans rfl; have hmk := print_make (P := Tryz.prog) 25 3 .i64 8 Tryz.underlying25 info3 (by omega) cl.length (by omega); obtain ⟨Wu, hWu⟩ : ∃ Wu, Wb.alloc (.cells (madeCells #[Value.int .i64 0] cl.length) 3) = Wu := ⟨_, rfl⟩
    have HOU : Aside0 (OwnI Wu Wb.heap.size (.slice (some ⟨Wb.heap.size, 0, none⟩) cl.length cl.length) (usedL lens x cl.length 0)) := ⟨by
      rw [← hWu, usedL_zero]; have hr := own_made Wb Wb.heap.size 3 .i64 cl.length (by simp) (by omega)
      exact Kd.R_of_own (by rw [List.length_replicate]; exact hr) (fun _ _ => trivial)⟩
    have HKU : Aside0 (KB (fun _ => False) Wb Wu) := ⟨by rw [← hWu]; exact KB.alloc _ _⟩
    have HEnd : Aside0 (∀ wz, KB (fun _ => False) Wb wz → suffB a b pts lens cl x = false → KB M Wb wz ∧ J (filtP a b pts lens cl (pre ++ [x])) wz ∧ wz.heap[W.heap.size]? = some (.cells #[.func (.yield l) #[] #[]] 140 (0, 0)) ∧ Below w.heap.size w wz) := ⟨fun wz hkz hsf => by
      have hwz : W.heap.size ≤ Wb.heap.size := by omega
      have e : filtP a b pts lens cl (pre ++ [x]) = filtP a b pts lens cl pre := by rw [filtP_snoc, hsf]; simp
      rw [e]
      exact ⟨hkz.mono (fun k _ h => h.elim), hJ _ _ _ hj hwz (hkz.mono (fun k _ h => h.elim)), hkz.at hy id, hb.trans (hkz.below hb.size (fun _ _ h => h))⟩⟩
    have HX := Aside0.mk (And.intro hxl (And.intro hg1 (And.intro hg2 hg3))); have HXR := Aside0.mk hxr; have HB := Aside0.mk (And.intro hb (And.intro hSb hCb)); have HJ := Aside0.mk (And.intro hj (And.intro hy ho)); have HS := Aside0.mk (And.intro hs (And.intro hrest hmem)); clear hj hy hb ho hs hrest hmem hxl hxr hSb hCb hg1 hg2 hg3
    gi_wp2
    gi_loopw [6, 23] (fun v6 v23 wr => ∃ k : Nat, v6 = .int .i64 (priceN lens cl x k) ∧ v23 = .int .i64 (k : Int) ∧ Aside0 (k ≤ x.length) ∧ Aside0 (OwnI wr Wb.heap.size (.slice (some ⟨Wb.heap.size, 0, none⟩) cl.length cl.length) (usedL lens x cl.length k)) ∧ Aside0 (KB (fun _ => False) Wb wr))
      (fun _ v _ => x.length - (intOf v).toNat)
    case atStart => exact ⟨0, rfl, rfl, ⟨Nat.zero_le _⟩, HOU, HKU⟩
    case round =>
      obtain ⟨k, rfl, rfl, HK, HO, HKB⟩ := hrel
      by_cases hk : k < x.length
      · have hkr := HKB.out; have hwb : w.heap.size ≤ Wb.heap.size := HB.out.1.size; have hbr : Below w.heap.size w wr := HB.out.1.trans (hkr.below hwb (fun _ _ h => h)); have z2 : wr.cell? ⟨S0, 3, none⟩ = some (.slice A3 lens.length c3) := (blk_cell ((hbr.block _ hlS).trans hS) 3).trans rfl; have z3 : wr.cell? ⟨C0, 0, none⟩ = some (.slice A1 cl.length c1) := (blk_cell ((hbr.block _ hlC).trans hC) 0).trans rfl; have p1 : (0 : Int) ≤ (k : Int) := by omega
        have p2 : (k : Int) < (x.length : Int) := by omega
        have p3 : (k : Int) < (lens.length : Int) := by have := HX.out.1; omega
        have hdr := HXR.out (k : Int) p1 p2; obtain ⟨z1, -⟩ := Kd.R_celln (0 : Int) (HJ.out.2.2.kb hkr (fun _ h => h.elim)) (k : Int) p1 p2; obtain ⟨ad3, e3, z4⟩ := Kd.at_int (Kd.C_below hr3 hbr) (k : Int) p1 p3; have hdd : rdOf (0 : Int) x (k : Int) = rd x (k : Int) := rfl; rw [hdd] at z1; obtain ⟨d, hd⟩ : ∃ d, rd x (k : Int) = d := ⟨_, rfl⟩; rw [hd] at z1 hdr; obtain ⟨adc, ec, -, z5, -⟩ := at_T53 (Kd.C_below hr1 hbr) d hdr.1 hdr.2; obtain ⟨z6, z6f⟩ := Kd.R_celln (0 : Int) HO.out d hdr.1 hdr.2; rw [show rdOf (0 : Int) (usedL lens x cl.length k) d = usedN lens x d k from usedL_at lens x cl.length k hdr.1 hdr.2] at z6; rw [Int.toNat_natCast] at z1 z4; have hu := used_range si x d k (by have := HX.out.1; omega); have hle := si.le (k : Int) p1 p3; have HD := Aside0.mk hd; clear hd hdd; have cc3 : decide ((k : Int) < (x.length : Int)) = true := decide_eq_true p2; have q1 := eq_true p1; have q2 := eq_true p2; have q3 := eq_true p3; have q4 := eq_true hdr.1; have q5 := eq_true hdr.2; subst e3 ec; have hmix : Tryz.prog.follows .mixedOrders = true := by kernel_rfl
        gi_wp2
        refine startR_ (m := 12) (S := fun w' => w'.cell? ⟨Wb.heap.size, d.toNat, none⟩ = some (.int .i64 (usedN lens x d k)) ∧ w'.cell? ⟨S0, 3, none⟩ = some (.slice (some ad3) lens.length c3) ∧ w'.cell? (ad3.add k) = some (.int .i64 (rd lens k))) (ds := [11]) #[false, false, false, false, false, false, false, false, false, false, false, false] hmix (by kernel_rfl) rfl rfl ⟨z6, z2, z4⟩ (fun hHeld => ?_); refine pure_ (i := 0) (N := (some 28)) (v := ?_) (a' := ?_) #[true, false, false, false, false, false, false, false, false, false, false, false] rfl rfl (by kernel_rfl) (fun _ _ _ h => h) (Or.inl ⟨by rfl, ?_⟩) ?_ ?_; rotate_left
        · intro w'
          go_simp
          with_reducible rfl
        rotate_left
        · simp only [Act.put, List.setIfInBounds_toArray, List.set_cons_zero, List.set_cons_succ, i64_w, i32_w]
          rfl
        refine pure_ (i := 1) (N := (some 29)) (v := ?_) (a' := ?_) #[true, true, false, false, false, false, false, false, false, false, false, false] rfl rfl (by kernel_rfl) (fun _ _ _ h => h) (Or.inl ⟨by rfl, ?_⟩) ?_ ?_; rotate_left
        · intro w'
          go_simp
          with_reducible rfl
        rotate_left
        · simp only [Act.put, List.setIfInBounds_toArray, List.set_cons_zero, List.set_cons_succ, i64_w, i32_w]
          rfl
        refine pure_ (i := 2) (N := (some 30)) (v := ?_) (a' := ?_) #[true, true, true, false, false, false, false, false, false, false, false, false] rfl rfl (by kernel_rfl) (fun _ _ _ h => h) (Or.inl ⟨by rfl, ?_⟩) ?_ ?_; rotate_left
        · intro w'
          go_simp
          with_reducible rfl
        rotate_left
        · simp only [Act.put, List.setIfInBounds_toArray, List.set_cons_zero, List.set_cons_succ, i64_w, i32_w]
          rfl
        refine take_ (i := 3) (N := (some 31)) (v := ?_) (a' := ?_) #[true, true, true, true, false, false, false, false, false, false, false, false] rfl rfl (by kernel_rfl) (fun _ _ _ h => h) (Or.inl ⟨by rfl, ?_⟩) hHeld ?_ ?_; rotate_left
        · rintro w' ⟨s0, s1, s2⟩
          go_simp
          with_reducible rfl
        rotate_left
        · simp only [Act.put, List.setIfInBounds_toArray, List.set_cons_zero, List.set_cons_succ, i64_w, i32_w]
          rfl
        refine pure_ (i := 4) (N := (some 32)) (v := ?_) (a' := ?_) #[true, true, true, true, true, false, false, false, false, false, false, false] rfl rfl (by kernel_rfl) (fun _ _ _ h => h) (Or.inl ⟨by rfl, ?_⟩) ?_ ?_; rotate_left
        · intro w'
          go_simp
          with_reducible rfl
        rotate_left
        · simp only [Act.put, List.setIfInBounds_toArray, List.set_cons_zero, List.set_cons_succ, i64_w, i32_w]
          rfl
        refine take_ (i := 5) (N := (some 33)) (v := ?_) (a' := ?_) #[true, true, true, true, true, true, false, false, false, false, false, false] rfl rfl (by kernel_rfl) (fun _ _ _ h => h) (Or.inl ⟨by rfl, ?_⟩) hHeld ?_ ?_; rotate_left
        · rintro w' ⟨s0, s1, s2⟩
          go_simp
          with_reducible rfl
        rotate_left
        · simp only [Act.put, List.setIfInBounds_toArray, List.set_cons_zero, List.set_cons_succ, i64_w, i32_w]
          rfl
        refine pure_ (i := 6) (N := (some 34)) (v := ?_) (a' := ?_) #[true, true, true, true, true, true, true, false, false, false, false, false] rfl rfl (by kernel_rfl) (fun _ _ _ h => h) (Or.inl ⟨by rfl, ?_⟩) ?_ ?_; rotate_left
        · intro w'
          go_simp
          with_reducible rfl
        rotate_left
        · simp only [Act.put, List.setIfInBounds_toArray, List.set_cons_zero, List.set_cons_succ, i64_w, i32_w]
          rfl
        refine pure_ (i := 7) (N := (some 35)) (v := ?_) (a' := ?_) #[true, true, true, true, true, true, true, true, false, false, false, false] rfl rfl (by kernel_rfl) (fun _ _ _ h => h) (Or.inl ⟨by rfl, ?_⟩) ?_ ?_; rotate_left
        · intro w'
          go_simp
          with_reducible rfl
        rotate_left
        · simp only [Act.put, List.setIfInBounds_toArray, List.set_cons_zero, List.set_cons_succ, i64_w, i32_w]
          rfl
        refine take_ (i := 8) (N := (some 36)) (v := ?_) (a' := ?_) #[true, true, true, true, true, true, true, true, true, false, false, false] rfl rfl (by kernel_rfl) (fun _ _ _ h => h) (Or.inl ⟨by rfl, ?_⟩) hHeld ?_ ?_; rotate_left
        · rintro w' ⟨s0, s1, s2⟩
          go_simp
          with_reducible rfl
        rotate_left
        · simp only [Act.put, List.setIfInBounds_toArray, List.set_cons_zero, List.set_cons_succ, i64_w, i32_w]
          rfl
        refine pure_ (i := 9) (N := (some 37)) (v := ?_) (a' := ?_) #[true, true, true, true, true, true, true, true, true, true, false, false] rfl rfl (by kernel_rfl) (fun _ _ _ h => h) (Or.inl ⟨by rfl, ?_⟩) ?_ ?_; rotate_left
        · intro w'
          go_simp
          with_reducible rfl
        rotate_left
        · simp only [Act.put, List.setIfInBounds_toArray, List.set_cons_zero, List.set_cons_succ, i64_w, i32_w]
          rfl
        refine pure_ (i := 10) (N := (some 38)) (v := ?_) (a' := ?_) #[true, true, true, true, true, true, true, true, true, true, true, false] rfl rfl (by kernel_rfl) (fun _ _ _ h => h) (Or.inl ⟨by rfl, ?_⟩) ?_ ?_; rotate_left
        · intro w'
          go_simp
          with_reducible rfl
        rotate_left
        · simp only [Act.put, List.setIfInBounds_toArray, List.set_cons_zero, List.set_cons_succ, i64_w, i32_w]
          rfl
        have hw8 : wrap64 (usedN lens x d k + rd lens (k : Int)) = usedN lens x d k + rd lens (k : Int) := IntWalk.wrap64_in _ (by have := HX.out.1; omega); rw [hw8]; clear hw8; obtain ⟨v8, hv8⟩ : ∃ v8, usedN lens x d k + rd lens (k : Int) = v8 := ⟨_, rfl⟩; rw [hv8]; have HO8 := Aside0.mk (Kd.R_putn (Kd.R_below HO.out (below_drew1 (Below.refl _ _))) d v8); have HK8 : Aside0 (KB (fun _ => False) Wb (wr.drew.setCell ⟨Wb.heap.size, d.toNat, none⟩ (.int .i64 v8))) := ⟨KB.step (hkr.trans (KB.of_below (below_drew1 (Below.refl _ _)))) (KB.setCell (M := fun k => k = Wb.heap.size) _ _ _ rfl) (fun i hi e => by omega)⟩; have HV8 := Aside0.mk hv8; have hf8 : wr.drew.frozen? ⟨Wb.heap.size, d.toNat, none⟩ = false := z6f; clear hkr hv8; refine last_ (i := 11) (N := none) #[true, true, true, true, true, true, true, true, true, true, true, true] rfl rfl (by kernel_rfl) (by decide) (fun K hK => ?_); refine skip_ (w1 := wr.drew.setCell ⟨Wb.heap.size, d.toNat, none⟩ (.int .i64 v8)) (by rfl) rfl ?_ ?_
        · go_simp
        refine hK.out _ _ ?_; clear hK K; refine done_ (by kernel_rfl) ?_; simp only [onlyN]; generalize hw8 : wr.drew.setCell ⟨Wb.heap.size, d.toNat, none⟩ (.int .i64 v8) = w8 at HO8 HK8 ⊢; clear hw8 hHeld z1 z2 z3 z4 z5 z6 z6f hf8; have hb8 : Below w.heap.size w w8 := HB.out.1.trans (HK8.out.below hwb (fun _ _ h => h)); have z2 : w8.cell? ⟨S0, 3, none⟩ = some (.slice (some ad3) lens.length c3) := (blk_cell ((hb8.block _ hlS).trans hS) 3).trans rfl; have z3 : w8.cell? ⟨C0, 0, none⟩ = some (.slice (some adc) cl.length c1) := (blk_cell ((hb8.block _ hlC).trans hC) 0).trans rfl; obtain ⟨ad3', e3', z4⟩ := Kd.at_int (Kd.C_below hr3 hb8) (k : Int) p1 p3; obtain ⟨adc', ec', -, z5, -⟩ := at_T53 (Kd.C_below hr1 hb8) d hdr.1 hdr.2
        cases e3'
        cases ec'
        rw [Int.toNat_natCast] at z4
        gi_wp2
        refine startR_ (m := 14) (S := fun w' => w'.cell? ⟨S0, 3, none⟩ = some (.slice (some ad3) lens.length c3) ∧ w'.cell? (ad3.add k) = some (.int .i64 (rd lens k)) ∧ w'.cell? ⟨C0, 0, none⟩ = some (.slice (some adc) cl.length c1) ∧ w'.cell? ⟨(adc.add (d.toNat * 3)).block, (adc.add (d.toNat * 3)).off + 1, none⟩ = some (.int .i64 (rd_T53 cl d).f1)) (ds := []) #[false, false, false, false, false, false, false, false, false, false, false, false, false, false] hmix (by kernel_rfl) rfl rfl ⟨z2, z4, z3, z5⟩ (fun hHeld => ?_); refine pure_ (i := 0) (N := (some 39)) (v := ?_) (a' := ?_) #[true, false, false, false, false, false, false, false, false, false, false, false, false, false] rfl rfl (by kernel_rfl) (fun _ _ _ h => h) (Or.inl ⟨by rfl, ?_⟩) ?_ ?_; rotate_left
        · intro w'
          go_simp
          with_reducible rfl
        rotate_left
        · simp only [Act.put, List.setIfInBounds_toArray, List.set_cons_zero, List.set_cons_succ, i64_w, i32_w]
          rfl
        refine pure_ (i := 1) (N := (some 40)) (v := ?_) (a' := ?_) #[true, true, false, false, false, false, false, false, false, false, false, false, false, false] rfl rfl (by kernel_rfl) (fun _ _ _ h => h) (Or.inl ⟨by rfl, ?_⟩) ?_ ?_; rotate_left
        · intro w'
          go_simp
          with_reducible rfl
        rotate_left
        · simp only [Act.put, List.setIfInBounds_toArray, List.set_cons_zero, List.set_cons_succ, i64_w, i32_w]
          rfl
        refine take_ (i := 2) (N := (some 41)) (v := ?_) (a' := ?_) #[true, true, true, false, false, false, false, false, false, false, false, false, false, false] rfl rfl (by kernel_rfl) (fun _ _ _ h => h) (Or.inl ⟨by rfl, ?_⟩) hHeld ?_ ?_; rotate_left
        · rintro w' ⟨s0, s1, s2, s3⟩
          go_simp
          with_reducible rfl
        rotate_left
        · simp only [Act.put, List.setIfInBounds_toArray, List.set_cons_zero, List.set_cons_succ, i64_w, i32_w]
          rfl
        refine pure_ (i := 3) (N := (some 42)) (v := ?_) (a' := ?_) #[true, true, true, true, false, false, false, false, false, false, false, false, false, false] rfl rfl (by kernel_rfl) (fun _ _ _ h => h) (Or.inl ⟨by rfl, ?_⟩) ?_ ?_; rotate_left
        · intro w'
          go_simp
          with_reducible rfl
        rotate_left
        · simp only [Act.put, List.setIfInBounds_toArray, List.set_cons_zero, List.set_cons_succ, i64_w, i32_w]
          rfl
        refine pure_ (i := 4) (N := (some 43)) (v := ?_) (a' := ?_) #[true, true, true, true, true, false, false, false, false, false, false, false, false, false] rfl rfl (by kernel_rfl) (fun _ _ _ h => h) (Or.inl ⟨by rfl, ?_⟩) ?_ ?_; rotate_left
        · intro w'
          go_simp
          with_reducible rfl
        rotate_left
        · simp only [Act.put, List.setIfInBounds_toArray, List.set_cons_zero, List.set_cons_succ, i64_w, i32_w]
          rfl
        refine take_ (i := 5) (N := (some 44)) (v := ?_) (a' := ?_) #[true, true, true, true, true, true, false, false, false, false, false, false, false, false] rfl rfl (by kernel_rfl) (fun _ _ _ h => h) (Or.inl ⟨by rfl, ?_⟩) hHeld ?_ ?_; rotate_left
        · rintro w' ⟨s0, s1, s2, s3⟩
          go_simp
          with_reducible rfl
        rotate_left
        · simp only [Act.put, List.setIfInBounds_toArray, List.set_cons_zero, List.set_cons_succ, i64_w, i32_w]
          rfl
        refine take_ (i := 6) (N := (some 45)) (v := ?_) (a' := ?_) #[true, true, true, true, true, true, true, false, false, false, false, false, false, false] rfl rfl (by kernel_rfl) (fun _ _ _ h => h) (Or.inl ⟨by rfl, ?_⟩) hHeld ?_ ?_; rotate_left
        · rintro w' ⟨s0, s1, s2, s3⟩
          go_simp
          with_reducible rfl
        rotate_left
        · simp only [Act.put, List.setIfInBounds_toArray, List.set_cons_zero, List.set_cons_succ, i64_w, i32_w]
          rfl
        refine pure_ (i := 7) (N := (some 46)) (v := ?_) (a' := ?_) #[true, true, true, true, true, true, true, true, false, false, false, false, false, false] rfl rfl (by kernel_rfl) (fun _ _ _ h => h) (Or.inl ⟨by rfl, ?_⟩) ?_ ?_; rotate_left
        · intro w'
          go_simp
          with_reducible rfl
        rotate_left
        · simp only [Act.put, List.setIfInBounds_toArray, List.set_cons_zero, List.set_cons_succ, i64_w, i32_w]
          rfl
        refine pure_ (i := 8) (N := (some 47)) (v := ?_) (a' := ?_) #[true, true, true, true, true, true, true, true, true, false, false, false, false, false] rfl rfl (by kernel_rfl) (fun _ _ _ h => h) (Or.inl ⟨by rfl, ?_⟩) ?_ ?_; rotate_left
        · intro w'
          go_simp
          with_reducible rfl
        rotate_left
        · simp only [Act.put, List.setIfInBounds_toArray, List.set_cons_zero, List.set_cons_succ, i64_w, i32_w]
          rfl
        refine pure_ (i := 9) (N := (some 48)) (v := ?_) (a' := ?_) #[true, true, true, true, true, true, true, true, true, true, false, false, false, false] rfl rfl (by kernel_rfl) (fun _ _ _ h => h) (Or.inl ⟨by rfl, ?_⟩) ?_ ?_; rotate_left
        · intro w'
          go_simp
          with_reducible rfl
        rotate_left
        · simp only [Act.put, List.setIfInBounds_toArray, List.set_cons_zero, List.set_cons_succ, i64_w, i32_w]
          rfl
        refine take_ (i := 10) (N := (some 49)) (v := ?_) (a' := ?_) #[true, true, true, true, true, true, true, true, true, true, true, false, false, false] rfl rfl (by kernel_rfl) (fun _ _ _ h => h) (Or.inl ⟨by rfl, ?_⟩) hHeld ?_ ?_; rotate_left
        · rintro w' ⟨s0, s1, s2, s3⟩
          go_simp
          with_reducible rfl
        rotate_left
        · simp only [Act.put, List.setIfInBounds_toArray, List.set_cons_zero, List.set_cons_succ, i64_w, i32_w]
          rfl
        refine pure_ (i := 11) (N := (some 50)) (v := ?_) (a' := ?_) #[true, true, true, true, true, true, true, true, true, true, true, true, false, false] rfl rfl (by kernel_rfl) (fun _ _ _ h => h) (Or.inl ⟨by rfl, ?_⟩) ?_ ?_; rotate_left
        · intro w'
          go_simp
          with_reducible rfl
        rotate_left
        · simp only [Act.put, List.setIfInBounds_toArray, List.set_cons_zero, List.set_cons_succ, i64_w, i32_w]
          rfl
        refine pure_ (i := 12) (N := (some 51)) (v := ?_) (a' := ?_) #[true, true, true, true, true, true, true, true, true, true, true, true, true, false] rfl rfl (by kernel_rfl) (fun _ _ _ h => h) (Or.inl ⟨by rfl, ?_⟩) ?_ ?_; rotate_left
        · intro w'
          go_simp
          with_reducible rfl
        rotate_left
        · simp only [Act.put, List.setIfInBounds_toArray, List.set_cons_zero, List.set_cons_succ, i64_w, i32_w]
          rfl
        refine pure_ (i := 13) (N := (some 6)) (v := ?_) (a' := ?_) #[true, true, true, true, true, true, true, true, true, true, true, true, true, true] rfl rfl (by kernel_rfl) (fun _ _ _ h => h) (Or.inl ⟨by rfl, ?_⟩) ?_ ?_; rotate_left
        · intro w'
          go_simp
          with_reducible rfl
        rotate_left
        · simp only [Act.put, List.setIfInBounds_toArray, List.set_cons_zero, List.set_cons_succ, i64_w, i32_w]
          rfl
        refine done_ (by kernel_rfl) ?_; simp only [onlyN]
        have HP9 : Aside0 (wrap64 (priceN lens cl x k + wrap64 (rd lens (k : Int) * (rd_T53 cl d).f1)) = priceN lens cl x (k + 1)) := ⟨by
          have h3 := ck.at_ d hdr.1 hdr.2; have h4 : 0 ≤ rd lens (k : Int) * (rd_T53 cl d).f1 := Int.mul_nonneg (by omega) (by omega); have h5 : rd lens (k : Int) * (rd_T53 cl d).f1 ≤ 100 * 100 := Int.mul_le_mul (by omega) (by omega) (by omega) (by omega); have h6 := price_range si ck HX.out.1 HXR.out k (by have := HX.out.1; omega); have := HX.out.1; rw [IntWalk.wrap64_in (rd lens (k : Int) * _) (by omega), IntWalk.wrap64_in _ (by omega)]
          show _ = priceN lens cl x k + rd lens (k : Int) * (rd_T53 cl (rd x (k : Int))).f1
          rw [HD.out]⟩
        rw [HP9.out]; generalize hw9 : w8.drew = w9
        have HO9 : Aside0 (OwnI w9 Wb.heap.size (.slice (some ⟨Wb.heap.size, 0, none⟩) cl.length cl.length) (usedL lens x cl.length (k + 1))) := ⟨by
          rw [← hw9, usedL_succ lens x cl.length k (by rw [HD.out]; exact hdr.1) (by rw [HD.out]; exact hdr.2), HD.out, HV8.out]
          exact Kd.R_below HO8.out (below_drew1 (Below.refl _ _))⟩
        have HK9 : Aside0 (KB (fun _ => False) Wb w9) := ⟨by rw [← hw9]; exact HK8.out.trans (KB.of_below (below_drew1 (Below.refl _ _)))⟩; clear hw9 hHeld
        gi_wp2
        go_roundw
        case rel => exact ⟨k + 1, rfl, (by rw [Int.natCast_add, Int.natCast_one]), ⟨by omega⟩, HO9, HK9⟩
        case measure => simp [intOf]; omega
      · obtain rfl : k = x.length := by have := HK.out; omega
        have cc3 : decide ((x.length : Int) < (x.length : Int)) = false := decide_eq_false (by omega); have hkr := HKB.out; have hwb : w.heap.size ≤ Wb.heap.size := HB.out.1.size; have HBR : Aside0 (Below w.heap.size w wr) := ⟨HB.out.1.trans (hkr.below hwb (fun _ _ h => h))⟩; clear hkr hwb; have z3 : wr.cell? ⟨C0, 0, none⟩ = some (.slice A1 cl.length c1) := (blk_cell ((HBR.out.block _ hlC).trans hC) 0).trans rfl
        gi_wp2
        gi_loop [55] (fun v55 => ∃ j : Nat, v55 = .int .i64 (j : Int) ∧ Aside0 (j ≤ cl.length) ∧ Aside0 (∀ i : Nat, i < j → usedN lens x (i : Int) x.length ≤ (rd_T53 cl (i : Int)).f2)) (fun v => cl.length - (intOf v).toNat)
        case atStart => exact ⟨0, rfl, ⟨Nat.zero_le _⟩, ⟨fun i hi => absurd hi (by omega)⟩⟩
        case round =>
          obtain ⟨j, rfl, HJ2, HSt⟩ := hrel; clear cc3
          by_cases hj : j < cl.length
          · have p1 : (0 : Int) ≤ (j : Int) := by omega
            have p2 : (j : Int) < (cl.length : Int) := by omega
            obtain ⟨zu, -⟩ := Kd.R_celln (0 : Int) HO.out (j : Int) p1 p2; rw [show rdOf (0 : Int) (usedL lens x cl.length x.length) (j : Int) = usedN lens x (j : Int) x.length from usedL_at lens x cl.length x.length p1 p2, Int.toNat_natCast] at zu; obtain ⟨adc, ec, -, -, zs⟩ := at_T53 (Kd.C_below hr1 HBR.out) (j : Int) p1 p2; rw [Int.toNat_natCast] at zs; subst ec; have q1 := eq_true p1; have q2 := eq_true p2; have cc4 : decide ((j : Int) < (cl.length : Int)) = true := decide_eq_true p2
            by_cases hst : (rd_T53 cl (j : Int)).f2 < usedN lens x (j : Int) x.length
            · have cc5 : decide ((rd_T53 cl (j : Int)).f2 < usedN lens x (j : Int) x.length) = true := decide_eq_true hst
              have HNS : Aside0 (suffB a b pts lens cl x = false) := ⟨by
                have : stockB lens cl x = false := by
                  unfold stockB; rw [List.all_eq_false]; exact ⟨j, List.mem_range.2 hj, by simp; omega⟩
                unfold suffB; rw [this]; rfl⟩
              gi_wp2
              exact HEnd.out _ HKB.out HNS.out
            · have cc5 : decide ((rd_T53 cl (j : Int)).f2 < usedN lens x (j : Int) x.length) = false := decide_eq_false hst
              gi_wp2
              go_round
              case rel => exact ⟨j + 1, (by rw [Int.natCast_add, Int.natCast_one]), ⟨by omega⟩, ⟨fun i hi => by
                by_cases e : i = j
                · subst e; omega
                · exact HSt.out i (by omega)⟩⟩
              case measure => simp [intOf]; omega
          · obtain rfl : j = cl.length := by have := HJ2.out; omega
            have cc4 : decide ((cl.length : Int) < (cl.length : Int)) = false := decide_eq_false (by omega)
            have HStk : Aside0 (stockB lens cl x = true) := ⟨by
              unfold stockB; rw [List.all_eq_true]; intro i hi; rw [decide_eq_true_eq]
              exact HSt.out i (List.mem_range.1 hi)⟩
            have hSr := (HBR.out.block _ hlS).trans hS; have x0 : wr.cell? ⟨S0, 0, none⟩ = some (.int .i64 a) := (blk_cell hSr 0).trans rfl; have x1 : wr.cell? ⟨S0, 1, none⟩ = some (.int .i64 b) := (blk_cell hSr 1).trans rfl; have x2 : wr.cell? ⟨S0, 2, none⟩ = some (.slice A2 pts.length c2) := (blk_cell hSr 2).trans rfl; have x3 : wr.cell? ⟨S0, 3, none⟩ = some (.slice A3 lens.length c3) := (blk_cell hSr 3).trans rfl; have HOX : Aside0 (OwnI wr (W.heap.size + 9) (.slice (some ⟨g, 0, none⟩) x.length cx) x) := ⟨HJ.out.2.2.kb HKB.out (fun _ h => h.elim)⟩; have hL := bursts_eq si HX.out.1 HXR.out 100 (by omega); have CB := channel_bursts.calls 100 a b A2 c2 pts A3 c3 lens A1 c1 cl (some ⟨g, 0, none⟩) cx x _ wr (Kd.C_below hr2 HBR.out) hc2 (Kd.C_below hr3 HBR.out) hc3 (Kd.C_below hr1 HBR.out) hc1 (Kd.R_reads' HOX.out).2.2 HX.out.2.2.2 hL; have HYR : Aside0 (wr.heap[W.heap.size]? = some (.cells #[.func (.yield l) #[] #[]] 140 (0, 0))) := ⟨HKB.out.at HJ.out.2.1 id⟩; have HJR : Aside0 (J (filtP a b pts lens cl pre) wr) := ⟨hJ _ _ _ HJ.out.1 (by have := HS.out.1; omega) (HKB.out.mono (fun _ _ h => h.elim))⟩; clear hL hSr
            by_cases hbe : burstL a b pts cl x lens.length = []
            · have HSF : Aside0 (suffB a b pts lens cl x = true) := ⟨by unfold suffB; rw [HStk.out, hbe]; rfl⟩; rw [hbe] at CB; clear hbe
              gi_wp2
              refine ⟨trivial, (fun h => by cases h), ?_⟩; refine (callsIn_wide_r CB).mono ?_; rintro e w5 ⟨v0, rfl, hR5, hb5⟩; obtain ⟨Av, cv, ev⟩ := Kd.R_slice hR5; subst ev; have hk5 : KB (fun _ => False) wr w5 := KB.of_below hb5; have zy : w5.cell? ⟨W.heap.size, 0, none⟩ = some (.func (.yield l) #[] #[]) := (blk_cell (hk5.at HYR.out id) 0).trans rfl; obtain ⟨fn_, tmps_, assign_, body_, hy_, hR_⟩ := hY (filtP a b pts lens cl pre) (x, priceN lens cl x x.length) #[.agg #[.slice (some ⟨g, 0, none⟩) x.length cx, .int .i64 (priceN lens cl x x.length)]] w5 (hJ _ _ _ HJR.out (by have := HS.out.1; have := HKB.out.size; omega) (hk5.mono (fun _ _ h => h.elim))) (by have := HS.out.1; have := HKB.out.size; have := hk5.size; omega) ⟨_, rfl, HOX.out.kb hk5 (fun _ h => h.elim)⟩ (filtP_rest HS.out.2.1 HSF.out); have H5 := Aside0.mk hk5; clear hk5 hb5 hR5 CB
              gi_wp2
              refine ⟨(fun h => by cases h), ?_⟩; refine RoundIn.mono (show RoundIn (Fence.wide.inRound l') _ _ _ _ _ _ _ _ _ from RoundIn.any_n hR_) ?_; rintro e w6 ⟨rfl, hJ6, hk6⟩
              gi_wp2
              have hk56 : KB M Wb w6 := ((HKB.out.trans H5.out).mono (fun _ _ h => h.elim)).trans hk6; have e : filtP a b pts lens cl (pre ++ [x]) = filtP a b pts lens cl pre ++ [(x, priceN lens cl x x.length)] := by rw [filtP_snoc, if_pos HSF.out]
              refine ⟨hk56, ?_, hk56.at HJ.out.2.1 (fun h => by have := (hM _ h).1; omega), HB.out.1.trans (hk56.below HB.out.1.size (fun k hk h => (hM k h).2 hk))⟩; rw [e]; exact hJ6
            · have HSF : Aside0 (suffB a b pts lens cl x = false) := ⟨by
                unfold suffB; rw [HStk.out, Bool.true_and]
                cases hbl : burstL a b pts cl x lens.length with
                | nil => exact absurd hbl hbe
                | cons => rfl⟩
              gi_wp2
              refine ⟨trivial, (fun h => by cases h), ?_⟩; refine (callsIn_wide_r CB).mono ?_; rintro e w5 ⟨v0, rfl, hR5, hb5⟩; obtain ⟨Av, cv, ev⟩ := Kd.R_slice hR5; subst ev; have hlen : ¬ (burstL a b pts cl x lens.length).length = 0 := fun h => hbe (List.eq_nil_of_length_eq_zero h); generalize (burstL a b pts cl x lens.length).length = m5 at hlen hR5 ⊢; have h3' : ((m5 : Int) == 0) = false := by rw [beq_eq_false_iff_ne]; omega
              have h3e : ((m5 : Int) = 0) = False := eq_false (by omega); have h3n : (m5 = 0) = False := eq_false hlen; have H5 : Aside0 (KB (fun _ => False) wr w5) := ⟨KB.of_below hb5⟩; clear hb5 hR5 CB hbe hlen
              gi_wp2
              (repeat (refine ⟨(fun f h => by cases h), ?_⟩; gi_wp2)); exact HEnd.out _ (HKB.out.trans H5.out) HSF.out
end Go.Proofs.YtdmdahafiiggiabGreatDoor.K
end
section
namespace Go.Proofs.YtdmdahafiiggiabGreatDoor.K
open Go.RowKit Go.Shelf Go.Proofs.YtdmdahafiiggiabGreatDoorW.PrintWords Go.Proofs.YtdmdahafiiggiabGreatDoorW.PrintLast Go.Proofs.YtdmdahafiiggiabGreatDoorW.PrintMore
attribute [local go_sem] Oper.semAt_some
set_option maxRecDepth 100000 in
set_option maxHeartbeats 1000000 in
theorem Pipes1_any (A B : Option Addr) (n m c d : Nat) (p q : Int) (w : World) :
    Calls Tryz.prog 66 #[.agg #[.slice A n c, .int .i64 p], .agg #[.slice B m d, .int .i64 q]] w fun e w' => e = .returned (.bool (decide (p < q))) ∧ Below w.heap.size w w' := by
  have hu1 := Tryz.underlying97
  go_enter Tryz.func66, Tryz.ntmps66
  go_wp2; go_ret; exact ⟨rfl, ((Below.refl _ _).alloc (Nat.le_refl _) _).alloc (by simp) _⟩
def stepP (o : Option (List Int × Int)) (x : List Int × Int) : Option (List Int × Int) := match o with
  | none => some x
  | some y => if x.2 < y.2 then some x else some y
def bestP (l : List (List Int × Int)) : Option (List Int × Int) := l.foldl stepP none
theorem bestP_snoc (l : List (List Int × Int)) (x : List Int × Int) : bestP (l ++ [x]) = stepP (bestP l) x := by simp [bestP, List.foldl_append]
def BestIs (o : Option (List Int × Int)) (w w' : World) (A : Option Addr) (n c : Nat) (p : Int) (m : Bool) : Prop := match o with
  | none => m = false
  | some y => m = true ∧ n = y.1.length ∧ p = y.2 ∧ OwnI w' w.heap.size (.slice A n c) y.1
def BestPost (o : Option (List Int × Int)) (w : World) (e : Ending) (w' : World) : Prop :=
  (∃ A n c p m, e = .returned (.tuple #[.agg #[.slice A n c, .int .i64 p], .bool m]) ∧ BestIs o w w' A n c p m) ∧ Below w.heap.size w w'
structure BestI (w : World) (B b : Nat) (pre : List (List Int × Int)) (W : World) : Prop where
  f : W.heap[B]? = some (.cells #[.func (.func 66) #[] #[]] 103 (0, 0))
  r : W.heap[B + 1]? = some (.cells #[.slice none 0 0, .int .i64 0] 97 (0, 0))
  no : bestP pre = none → W.heap[B + 2]? = some (.cells #[.slice none 0 0, .int .i64 0] 97 (0, 0)) ∧ W.heap[B + 3]? = some (.cells #[.bool false] 4 (0, 0))
  yes : ∀ y, bestP pre = some y → W.heap[B + 3]? = some (.cells #[.bool true] 4 (0, 0)) ∧ ∃ A c, W.heap[B + 2]? = some (.cells #[.slice A y.1.length c, .int .i64 y.2] 97 (0, 0)) ∧ OwnI W b (.slice A y.1.length c) y.1
  bel : Below w.heap.size w W
theorem BestI.kb {w W W1 : World} {B b : Nat} {pre : List (List Int × Int)} {M : Nat → Prop} (h : BestI w B b pre W) (hk : KB M W W1) (hw : w.heap.size ≤ B) (hM : ∀ k, M k → B + 4 ≤ k ∧ k < b) : BestI w B b pre W1 where
  f := hk.at h.f fun e => by have := (hM _ e).1; omega
  r := hk.at h.r fun e => by have := (hM _ e).1; omega
  no e := ⟨hk.at (h.no e).1 fun e => by have := (hM _ e).1; omega, hk.at (h.no e).2 fun e => by have := (hM _ e).1; omega⟩
  yes y e := by
    obtain ⟨h1, A, c, h2, h3⟩ := h.yes y e; exact ⟨hk.at h1 fun e => by have := (hM _ e).1; omega, A, c, hk.at h2 fun e => by have := (hM _ e).1; omega, h3.kb hk fun k e => (hM k e).2⟩
  bel := h.bel.trans (hk.below h.bel.size fun k hkk e => by have := (hM _ e).1; omega)
theorem BestI.put {w W : World} {B b : Nat} {pre : List (List Int × Int)} {x : List Int × Int} {A : Option Addr} {c : Nat} (h : BestI w B b pre W) (hw : w.heap.size ≤ B) (hb : B + 4 ≤ b) (hs : stepP (bestP pre) x = some x) (ho : OwnI W b (.slice A x.1.length c) x.1)
    (v2 v3 : Value) (s0 : Value) (h2 : W.heap[B + 2]? = some (.cells #[v2, v3] 97 (0, 0))) (h3 : W.heap[B + 3]? = some (.cells #[s0] 4 (0, 0))) :
    BestI w B b (pre ++ [x]) (((W.setCell ⟨B + 2, 0, none⟩ (.slice A x.1.length c)).setCell ⟨B + 2, 1, none⟩ (.int .i64 x.2)).setCell ⟨B + 3, 0, none⟩ (.bool true)) ∧ KB (fun k => k = B + 2 ∨ k = B + 3) W (((W.setCell ⟨B + 2, 0, none⟩ (.slice A x.1.length c)).setCell ⟨B + 2, 1, none⟩ (.int .i64 x.2)).setCell ⟨B + 3, 0, none⟩ (.bool true)) := by
  have hk : KB (fun k => k = B + 2 ∨ k = B + 3) W (((W.setCell ⟨B + 2, 0, none⟩ (.slice A x.1.length c)).setCell ⟨B + 2, 1, none⟩ (.int .i64 x.2)).setCell ⟨B + 3, 0, none⟩ (.bool true)) :=
    ((KB.setCell _ _ _ (.inl rfl)).trans (KB.setCell _ _ _ (.inl rfl))).trans (KB.setCell _ _ _ (.inr rfl))
  refine ⟨{ f := hk.at h.f (fun e => by omega), r := hk.at h.r (fun e => by omega), no := fun e => (by rw [bestP_snoc, hs] at e; cases e), yes := fun y e => ?_, bel := h.bel.trans (hk.below h.bel.size fun k hkk e => by omega) }, hk⟩; rw [bestP_snoc, hs] at e; obtain rfl := Option.some.inj e; refine ⟨blk_put (blk_far (blk_far h3 (by show B + 3 ≠ B + 2; omega) _) (by show B + 3 ≠ B + 2; omega) _) 0 _ rfl, A, c, blk_far (blk_put (blk_put h2 0 _ rfl) 1 _ rfl) (by show B + 2 ≠ B + 3; omega) _, ho.kb hk (fun k e => by omega)⟩
theorem BestI.same {w W : World} {B b : Nat} {pre : List (List Int × Int)} {x : List Int × Int} (h : BestI w B b pre W) (hs : stepP (bestP pre) x = bestP pre) : BestI w B b (pre ++ [x]) W where
  f := h.f
  r := h.r
  no e := h.no (by rw [bestP_snoc, hs] at e; exact e)
  yes y e := h.yes y (by rw [bestP_snoc, hs] at e; exact e)
  bel := h.bel
set_option maxRecDepth 100000 in
set_option maxHeartbeats 2000000 in
theorem best_any (S0 C0 : Nat) (a b : Int) (A2 A3 A1 : Option Addr) (c2 c3 c1 : Nat) (pts : List S23) (lens : List Int) (cl : List S53) (w : World) (hsi : isSiphonB a b pts lens = true) (hcl : areClassesB cl = true)
    (hS : w.heap[S0]? = some (.cells #[.int .i64 a, .int .i64 b, .slice A2 pts.length c2, .slice A3 lens.length c3] 27 (0, 0))) (hC : w.heap[C0]? = some (.cells #[.slice A1 cl.length c1] 42 (0, 0)))
    (hr2 : Kd.C k23 w A2 pts.length pts) (hc2 : pts.length ≤ c2) (hr3 : Kd.C (Kd.int .i64) w A3 lens.length lens) (hc3 : lens.length ≤ c3) (hr1 : Kd.C k53 w A1 cl.length cl) (hc1 : cl.length ≤ c1) :
    Calls Tryz.prog 64 #[.func (.func 108) #[] #[.pointer (some ⟨S0, 0, none⟩), .pointer (some ⟨C0, 0, none⟩)], .func (.func 66) #[] #[]] w fun e w' =>
      BestPost (bestP (filtP a b pts lens cl (tails cl.length lens.length))) w e w' := by
  refine (callsIn_wide (n := 5)).1 ?_; have hu1 := Tryz.underlying97; refine callsIn_of_wp_marks Tryz.func64 rfl trivial ?_ rfl; simp only [Tryz.ntmps64, List.size_toArray, List.length_cons, List.length_nil, Nat.reduceAdd, Nat.reduceSub, Array.replicate_succ, Array.replicate_zero, List.push_toArray, List.append_toArray, List.nil_append, List.cons_append]
  gi_wp2
  generalize hW4 : World.alloc (World.alloc (World.alloc (World.alloc w _) _) _) _ = W4; have hk4 : ∀ N : Nat → Prop, KB N w W4 := fun N => by rw [← hW4]; exact ((KB.alloc w _).trans (KB.alloc _ _)).trans ((KB.alloc _ _).trans (KB.alloc _ _))
  have hz4 : W4.heap.size = w.heap.size + 4 := by rw [← hW4]; simp
  have hB4 : Below w.heap.size w W4 := (hk4 (fun _ => False)).below (Nat.le_refl _) (fun _ _ h => h)
  have h0 : BestI w w.heap.size (w.heap.size + 15) [] W4 := by
    have n0 := blk_new w (.cells #[.func (.func 66) #[] #[]] 103); have n1 := blk_new (w.alloc (.cells #[.func (.func 66) #[] #[]] 103)) (.cells #[.slice none 0 0, .int .i64 0] 97); have n2 := blk_new ((w.alloc (.cells #[.func (.func 66) #[] #[]] 103)).alloc (.cells #[.slice none 0 0, .int .i64 0] 97)) (.cells #[.slice none 0 0, .int .i64 0] 97); have n3 := blk_new (((w.alloc (.cells #[.func (.func 66) #[] #[]] 103)).alloc (.cells #[.slice none 0 0, .int .i64 0] 97)).alloc (.cells #[.slice none 0 0, .int .i64 0] 97)) (.cells #[.bool false] 4); simp only [World.size_alloc] at n0 n1 n2 n3; rw [← hW4]
    exact {
      f := blk_alloc (blk_alloc (blk_alloc n0 _) _) _
      r := blk_alloc (blk_alloc n1 _) _
      no := fun _ => ⟨blk_alloc n2 _, n3⟩
      yes := fun y e => by cases e
      bel := by rw [hW4]; exact hB4 }
  clear hW4; have hseq := enough1_seq 4 (by omega) S0 C0 a b A2 A3 A1 c2 c3 c1 pts lens cl w hsi hcl hS hC hr2 hc2 hr3 hc3 hr1 hc1
  refine wpIn_rangeM rfl (by omega) (gf := 108) rfl trivial (enters_of Tryz.func108 (by kernel_rfl) rfl) hseq (fun k => k = w.heap.size + 2 ∨ k = w.heap.size + 3) (hk4 _) (fun k hk => hk) (fun k hk => ⟨by rcases hk with rfl | rfl <;> omega, by rcases hk with rfl | rfl <;> omega⟩) (fun B W x v h => by obtain ⟨sl, rfl, _⟩ := h; rfl)
    (fun pre W' => BestI w w.heap.size (w.heap.size + 15) pre W')
    (fun pre x a₁ W' => BestI w w.heap.size (w.heap.size + 15) pre W' ∧ ∃ A c X, a₁ = { tmps := #[.func (.func 108) #[] #[.pointer (some ⟨S0, 0, none⟩), .pointer (some ⟨C0, 0, none⟩)], .func (.func 66) #[] #[], undef, .pointer (some ⟨w.heap.size, 0, none⟩), .pointer (some ⟨w.heap.size + 1, 0, none⟩), .bool false, .pointer (some ⟨w.heap.size + 1 + 1, 0, none⟩), .pointer (some ⟨w.heap.size + 1 + 1 + 1, 0, none⟩), .pointer (some ⟨X, 0, none⟩), .func (.func 108) #[] #[.pointer (some ⟨S0, 0, none⟩), .pointer (some ⟨C0, 0, none⟩)], .agg #[.slice A x.1.length c, .int .i64 x.2], undef, undef, undef, undef, undef, undef, undef, undef, undef, undef, undef], defers := [] } ∧ OwnI W' (w.heap.size + 15) (.slice A x.1.length c) x.1 ∧ W'.heap[X]? = some (.cells #[.slice A x.1.length c, .int .i64 x.2] 97 (0, 0)) ∧ w.heap.size + 15 ≤ X)
    ?sI ?sM h0 ?assign ?body ?done
  case sI =>
    intro pre A A' hI hs hk; exact hI.kb hk (Nat.le_refl _) (fun k h => ⟨by omega, by omega⟩)
  case sM =>
    rintro pre x a1 A A' ⟨hI, Ax, c, X, rfl, ho, hX, hXl⟩ hs hk; exact ⟨hI.kb hk (Nat.le_refl _) (fun k h => ⟨by omega, by omega⟩), Ax, c, X, rfl, ho.kb hk (fun k h => by omega), hk.at hX (fun h => by omega), hXl⟩
  case assign =>
    rintro l' pre x v W' hI hs ⟨sl, rfl, ho⟩ hrest; obtain ⟨Ax, c, rfl⟩ := Kd.R_slice ho; rw [hz4] at ho hs
    gi_wp2
    exact ⟨KB.alloc _ _, hI.kb (KB.alloc (M := fun _ => False) _ _) (Nat.le_refl _) (fun _ h => h.elim), Ax, c, _, rfl, Kd.R_alloc ho _, blk_new _ _, by omega⟩
  case done =>
    rintro W' hI hk hD
    obtain ⟨A, m5, c, p5, b5, h2, h3, hm5⟩ : ∃ A m5 c p5 b5, W'.heap[w.heap.size + 2]? = some (.cells #[.slice A m5 c, .int .i64 p5] 97 (0, 0)) ∧ W'.heap[w.heap.size + 3]? = some (.cells #[.bool b5] 4 (0, 0)) ∧
        (match bestP (filtP a b pts lens cl (tails cl.length lens.length)) with
        | none => b5 = false
        | some y => b5 = true ∧ m5 = y.1.length ∧ p5 = y.2 ∧ OwnI W' (w.heap.size + 15) (.slice A m5 c) y.1) := by
      cases hbp : bestP (filtP a b pts lens cl (tails cl.length lens.length)) with
      | none =>
        obtain ⟨h2, h3⟩ := hI.no hbp; exact ⟨none, 0, 0, 0, false, h2, h3, rfl⟩
      | some y =>
        obtain ⟨h3, Ay, cy, h2, hoy⟩ := hI.yes y hbp; exact ⟨Ay, y.1.length, cy, y.2, true, h2, h3, rfl, rfl, rfl, hoy⟩
    have x0 : W'.cell? ⟨w.heap.size + 1 + 1, 0, none⟩ = some (.slice A m5 c) := (blk_cell h2 0).trans rfl; have x1 : W'.cell? ⟨w.heap.size + 1 + 1, 1, none⟩ = some (.int .i64 p5) := (blk_cell h2 1).trans rfl; have x2 : W'.cell? ⟨w.heap.size + 1 + 1 + 1, 0, none⟩ = some (.bool b5) := (blk_cell h3 0).trans rfl; have HR := Aside0.mk hI.r; have HBel := Aside0.mk hI.bel; have HM5 := Aside0.mk hm5; have HD := Aside0.mk (And.intro hD hk); have H23 := Aside0.mk (And.intro h2 h3); clear hI hk hD h2 h3 hm5
    gi_wp2
    refine startN_ (m := 4) (S := fun w' => w'.cell? ⟨w.heap.size + 1 + 1, 0, none⟩ = some (.slice A m5 c) ∧ w'.cell? ⟨w.heap.size + 1 + 1, 1, none⟩ = some (.int .i64 p5) ∧ w'.cell? ⟨w.heap.size + 1 + 1 + 1, 0, none⟩ = some (.bool b5)) (ds := []) #[false, false, false, false] (by kernel_rfl) rfl rfl ⟨x0, x1, x2⟩ (fun hHeld => ?_); refine take_ (i := 0) (N := (some 20)) (v := ?_) (a' := ?_) #[true, false, false, false] rfl rfl (by kernel_rfl) (fun _ _ _ h => h) (Or.inl ⟨by rfl, ?_⟩) hHeld ?_ ?_; rotate_left
    · rintro w' ⟨s0, s1, s2⟩
      go_simp
      with_reducible rfl
    rotate_left
    · simp only [Act.put, List.setIfInBounds_toArray, List.set_cons_zero, List.set_cons_succ, i64_w, i32_w]
      rfl
    refine take_ (i := 1) (N := (some 21)) (v := ?_) (a' := ?_) #[true, true, false, false] rfl rfl (by kernel_rfl) (fun _ _ _ h => h) (Or.inl ⟨by rfl, ?_⟩) hHeld ?_ ?_; rotate_left
    · rintro w' ⟨s0, s1, s2⟩
      go_simp
      with_reducible rfl
    rotate_left
    · simp only [Act.put, List.setIfInBounds_toArray, List.set_cons_zero, List.set_cons_succ, i64_w, i32_w]
      rfl
    have hDr : W'.drew.heap[W4.heap.size]? = some (.deferred (some [])) := HD.out.1; have hBd : Below w.heap.size w W'.drew := HBel.out.trans ((below_drew1 (Below.refl w.heap.size W')))
    have hMd : (match bestP (filtP a b pts lens cl (tails cl.length lens.length)) with
        | none => b5 = false
        | some y => b5 = true ∧ m5 = y.1.length ∧ p5 = y.2 ∧ OwnI W'.drew (w.heap.size + 15) (.slice A m5 c) y.1) := by
      have h := HM5.out
      revert h
      cases bestP (filtP a b pts lens cl (tails cl.length lens.length)) with
      | none => exact id
      | some y => exact fun h => ⟨h.1, h.2.1, h.2.2.1, Kd.R_drew h.2.2.2⟩
    have h23 : W'.drew.heap[w.heap.size + 2]? = some (.cells #[.slice A m5 c, .int .i64 p5] 97 (0, 0)) ∧ W'.drew.heap[w.heap.size + 3]? = some (.cells #[.bool b5] 4 (0, 0)) := H23.out; have hRd : W'.drew.heap[w.heap.size + 1]? = some (.cells #[.slice none 0 0, .int .i64 0] 97 (0, 0)) := HR.out; generalize W'.drew = wd at hDr hBd hMd hRd h23 hHeld ⊢; have zr0 : wd.cell? ⟨w.heap.size + 1, 0, none⟩ = some (.slice none 0 0) := (blk_cell hRd 0).trans rfl; have zr1 : wd.cell? ⟨w.heap.size + 1, 1, none⟩ = some (.int .i64 0) := (blk_cell hRd 1).trans rfl; have zg0 : wd.frozen? ⟨w.heap.size + 1, 0, none⟩ = false := blk_frozen hRd 0; have zg1 : wd.frozen? ⟨w.heap.size + 1, 1, none⟩ = false := blk_frozen hRd 1; have HF := Aside0.mk (And.intro hDr (And.intro hBd (And.intro hMd (And.intro hRd h23)))); clear hDr hBd hMd hRd h23; have hB1 : w.heap.size + 1 < W4.heap.size := by omega
    refine one_ (i := 2) (N := none) #[true, true, true, false] rfl rfl (by kernel_rfl) (by decide) (fun K hK => ?_); refine skip_ (w1 := (wd.setCell ⟨w.heap.size + 1, 0, none⟩ (.slice A m5 c)).setCell ⟨w.heap.size + 1, 1, none⟩ (.int .i64 p5)) (by rfl) rfl ?_ ?_
    · go_simp
    have hkS : KB (fun k => k = w.heap.size + 1) wd ((wd.setCell ⟨w.heap.size + 1, 0, none⟩ (.slice A m5 c)).setCell ⟨w.heap.size + 1, 1, none⟩ (.int .i64 p5)) := (KB.setCell (M := fun k => k = w.heap.size + 1) _ ⟨w.heap.size + 1, 0, none⟩ _ rfl).trans (KB.setCell (M := fun k => k = w.heap.size + 1) _ ⟨w.heap.size + 1, 1, none⟩ _ rfl); refine hK.out _ _ ⟨(blk_cell (hkS.at HF.out.2.2.2.2.1 (fun e => by omega)) 0).trans rfl, (blk_cell (hkS.at HF.out.2.2.2.2.1 (fun e => by omega)) 1).trans rfl, (blk_cell (hkS.at HF.out.2.2.2.2.2 (fun e => by omega)) 0).trans rfl⟩ (fun _ => ?_); clear hkS hK K; refine pure_ (i := 3) (N := (some 5)) (v := ?_) (a' := ?_) #[true, true, true, true] rfl rfl (by kernel_rfl) (fun _ _ _ h => h) (Or.inl ⟨by rfl, ?_⟩) ?_ ?_; rotate_left
    · intro w'
      go_simp
      with_reducible rfl
    rotate_left
    · simp only [Act.put, List.setIfInBounds_toArray, List.set_cons_zero, List.set_cons_succ, i64_w, i32_w]
      rfl
    refine done_ (by kernel_rfl) ?_; simp only [onlyN]; obtain ⟨hDr, hBd, hMd, hRd, -⟩ := HF.out; have hk6 : KB (fun k => k = w.heap.size + 1) wd ((wd.setCell ⟨w.heap.size + 1, 0, none⟩ (.slice A m5 c)).setCell ⟨w.heap.size + 1, 1, none⟩ (.int .i64 p5)) := (KB.setCell (M := fun k => k = w.heap.size + 1) _ ⟨w.heap.size + 1, 0, none⟩ _ rfl).trans (KB.setCell (M := fun k => k = w.heap.size + 1) _ ⟨w.heap.size + 1, 1, none⟩ _ rfl); have hR6 := blk_put (blk_put hRd 0 (.slice A m5 c) rfl) 1 (.int .i64 p5) rfl; generalize (wd.setCell ⟨w.heap.size + 1, 0, none⟩ (.slice A m5 c)).setCell ⟨w.heap.size + 1, 1, none⟩ (.int .i64 p5) = w6 at hk6 hR6 ⊢; have hD6 : w6.heap[W4.heap.size]? = some (.deferred (some [])) := hk6.at hDr (fun e => by omega); clear zr0 zr1 zg0 zg1 hHeld x0 x1 x2
    gi_wp2
    refine ⟨by simp, .inl ⟨_, _, rfl, run_takeDeferred hD6, ?_⟩⟩; have hk7 : KB (fun k => k = w.heap.size + 1 ∨ k = W4.heap.size) wd (w6.putObj W4.heap.size (.deferred none)) := (hk6.mono (fun k _ h => .inl h)).trans (KB.putObj _ _ _ fun _ => .inr rfl); have hR7 : (w6.putObj W4.heap.size (.deferred none)).heap[w.heap.size + 1]? = some (.cells #[.slice A m5 c, .int .i64 p5] 97 (0, 0)) := (World.putObj_heap_other (by omega)).trans hR6; generalize w6.putObj W4.heap.size (.deferred none) = w7 at hk7 hR7 ⊢; have zq0 : w7.cell? ⟨w.heap.size + 1, 0, none⟩ = some (.slice A m5 c) := (blk_cell hR7 0).trans rfl; have zq1 : w7.cell? ⟨w.heap.size + 1, 1, none⟩ = some (.int .i64 p5) := (blk_cell hR7 1).trans rfl; refine ⟨.tuple #[.agg #[.slice A m5 c, .int .i64 p5], .bool b5], (by simp [results, Tryz.results64, go_sem, zq0, zq1]), ⟨A, m5, c, p5, b5, rfl, ?_⟩, hBd.trans (hk7.below hBd.size (fun k hk h => by omega))⟩; unfold BestIs
    revert hMd
    cases bestP (filtP a b pts lens cl (tails cl.length lens.length)) with
    | none => exact id
    | some y => exact fun h => ⟨h.1, h.2.1, h.2.2.1, (h.2.2.2.kb hk7 (fun k e => by omega)).weak (by omega)⟩
  case body =>
    rintro l' pre x a1 W' ⟨hI, Ax, c, X, rfl, ho, hX, hXl⟩ hs hrest; have hw15 : w.heap.size + 4 ≤ w.heap.size + 15 := by omega
    have zx0 : W'.cell? ⟨X, 0, none⟩ = some (.slice Ax x.1.length c) := (blk_cell hX 0).trans rfl; have zx1 : W'.cell? ⟨X, 1, none⟩ = some (.int .i64 x.2) := (blk_cell hX 1).trans rfl
    cases hbp : bestP pre with
    | none =>
      obtain ⟨h2, h3⟩ := hI.no hbp; have zm : W'.cell? ⟨w.heap.size + 1 + 1 + 1, 0, none⟩ = some (.bool false) := (blk_cell h3 0).trans rfl; have zo0 : W'.cell? ⟨w.heap.size + 1 + 1, 0, none⟩ = some (.slice none 0 0) := (blk_cell h2 0).trans rfl; have zo1 : W'.cell? ⟨w.heap.size + 1 + 1, 1, none⟩ = some (.int .i64 0) := (blk_cell h2 1).trans rfl; have zf2 : W'.frozen? ⟨w.heap.size + 1 + 1, 0, none⟩ = false := blk_frozen h2 0; have zf3 : W'.frozen? ⟨w.heap.size + 1 + 1, 1, none⟩ = false := blk_frozen h2 1; have zf4 : W'.frozen? ⟨w.heap.size + 1 + 1 + 1, 0, none⟩ = false := blk_frozen h3 0; have HP := Aside0.mk (hI.put (Nat.le_refl _) hw15 (by rw [hbp]; rfl) ho _ _ _ h2 h3); clear hI h2 h3 ho hX hbp
      gi_wp2
      (repeat (refine ⟨(fun f h => by cases h), ?_⟩; gi_wp2)); exact ⟨HP.out.2, HP.out.1⟩
    | some y =>
      obtain ⟨h3, Ay, cy, h2, hoy⟩ := hI.yes y hbp; have zm : W'.cell? ⟨w.heap.size + 1 + 1 + 1, 0, none⟩ = some (.bool true) := (blk_cell h3 0).trans rfl; have zo0 : W'.cell? ⟨w.heap.size + 1 + 1, 0, none⟩ = some (.slice Ay y.1.length cy) := (blk_cell h2 0).trans rfl; have zo1 : W'.cell? ⟨w.heap.size + 1 + 1, 1, none⟩ = some (.int .i64 y.2) := (blk_cell h2 1).trans rfl; have zb : W'.cell? ⟨w.heap.size, 0, none⟩ = some (.func (.func 66) #[] #[]) := (blk_cell hI.f 0).trans rfl; have HI := Aside0.mk (And.intro hI (And.intro ho (And.intro hX hbp))); have zf2 : W'.frozen? ⟨w.heap.size + 1 + 1, 0, none⟩ = false := blk_frozen h2 0; clear zf2 hI h2 h3 ho hX hbp hoy
      gi_wp2
      refine ⟨trivial, ?_⟩; refine (callsIn_wide_r (Pipes1_any Ax Ay x.1.length y.1.length c cy x.2 y.2 W')).mono ?_; rintro e w5 ⟨rfl, hb5⟩; have hk5 : KB (fun _ => False) W' w5 := KB.of_below hb5; have hI := HI.out.1.kb hk5 (Nat.le_refl _) (fun _ h => h.elim); have ho := HI.out.2.1.kb hk5 (fun _ h => h.elim); have hX := hk5.at HI.out.2.2.1 id; obtain ⟨h3, Ay', cy', h2, hoy⟩ := hI.yes y HI.out.2.2.2
      by_cases hlt : x.2 < y.2
      · have zz0 : w5.cell? ⟨X, 0, none⟩ = some (.slice Ax x.1.length c) := (blk_cell hX 0).trans rfl; have zz1 : w5.cell? ⟨X, 1, none⟩ = some (.int .i64 x.2) := (blk_cell hX 1).trans rfl; have zm5 : w5.cell? ⟨w.heap.size + 1 + 1 + 1, 0, none⟩ = some (.bool true) := (blk_cell h3 0).trans rfl; have zo5 : w5.cell? ⟨w.heap.size + 1 + 1, 0, none⟩ = some (.slice Ay' y.1.length cy') := (blk_cell h2 0).trans rfl; have zp5 : w5.cell? ⟨w.heap.size + 1 + 1, 1, none⟩ = some (.int .i64 y.2) := (blk_cell h2 1).trans rfl; have zf2 : w5.frozen? ⟨w.heap.size + 1 + 1, 0, none⟩ = false := blk_frozen h2 0; have zf3 : w5.frozen? ⟨w.heap.size + 1 + 1, 1, none⟩ = false := blk_frozen h2 1; have zf4 : w5.frozen? ⟨w.heap.size + 1 + 1 + 1, 0, none⟩ = false := blk_frozen h3 0; have HP := Aside0.mk (hI.put (Nat.le_refl _) hw15 (by rw [HI.out.2.2.2]; simp [stepP, hlt]) ho _ _ _ h2 h3); have HK5 := Aside0.mk (hk5.mono (M' := fun k => k = w.heap.size + 2 ∨ k = w.heap.size + 3) (fun _ _ h => h.elim)); have cc : decide (x.2 < y.2) = true := decide_eq_true hlt; clear hI ho hX h2 h3 hoy hk5 hb5 hlt
        gi_wp2
        exact ⟨HK5.out.trans HP.out.2, HP.out.1⟩
      · have HS := Aside0.mk (hI.same (x := x) (by rw [HI.out.2.2.2]; simp [stepP, hlt])); have HK5 := Aside0.mk (hk5.mono (M' := fun k => k = w.heap.size + 2 ∨ k = w.heap.size + 3) (fun _ _ h => h.elim)); have cc : decide (x.2 < y.2) = false := decide_eq_false hlt; clear hI ho hX h2 h3 hoy hk5 hb5 hlt
        gi_wp2
        exact ⟨HK5.out, HS.out⟩
end Go.Proofs.YtdmdahafiiggiabGreatDoor.K
end
section
namespace Go.Proofs.YtdmdahafiiggiabGreatDoor.K
open Go.RowKit Go.Shelf Go.Proofs.YtdmdahafiiggiabGreatDoorW.PrintWords Go.Proofs.YtdmdahafiiggiabGreatDoorW.PrintLast Go.Proofs.YtdmdahafiiggiabGreatDoorW.PrintMore
def pipesF (a b : Int) (pts : List S23) (lens : List Int) (cl : List S53) : List Int × Int × Int :=
  if isSiphonB a b pts lens = true ∧ areClassesB cl = true then
    match bestP (filtP a b pts lens cl (tails cl.length lens.length)) with
    | none => ([], 0, 5)
    | some y => (y.1, y.2, 0)
  else ([], 0, 2)
def PipesPost (r : List Int × Int × Int) (w : World) (e : Ending) (w' : World) : Prop :=
  ∃ v0_ : Value, e = .returned (.tuple #[v0_, .int .i64 r.2.1, .int .i64 r.2.2]) ∧ Kd.R (Kd.int .i64) 3 w' w.heap.size (fun _ => True) v0_ r.1 ∧ Below w.heap.size w w'
theorem PipesPost.mk {r : List Int × Int × Int} {w w' : World} {A : Option Addr} {n c : Nat} {p q : Int} (h : OwnI w' w.heap.size (.slice A n c) r.1) (hp : p = r.2.1) (hq : q = r.2.2) (hb : Below w.heap.size w w') : PipesPost r w (.returned (.tuple #[.slice A n c, .int .i64 p, .int .i64 q])) w' := by
  subst hp hq; exact ⟨_, rfl, h, hb⟩
set_option maxRecDepth 100000 in
set_option maxHeartbeats 2000000 in
theorem pipes_any (a b : Int) (A2 A3 A1 : Option Addr) (c2 c3 c1 : Nat) (pts : List S23) (lens : List Int) (cl : List S53) (w : World) (hl2 : pts.length ≤ 9223372036854775807) (hl3 : lens.length ≤ 9223372036854775807) (hl1 : cl.length ≤ 9223372036854775807)
    (hr2 : Kd.C k23 w A2 pts.length pts) (hc2 : pts.length ≤ c2) (hr3 : Kd.C (Kd.int .i64) w A3 lens.length lens) (hc3 : lens.length ≤ c3) (hr1 : Kd.C k53 w A1 cl.length cl) (hc1 : cl.length ≤ c1) :
    Calls Tryz.prog 28 #[.agg #[.int .i64 a, .int .i64 b, .slice A2 pts.length c2, .slice A3 lens.length c3], .slice A1 cl.length c1] w fun e w' => PipesPost (pipesF a b pts lens cl) w e w' := by
  have hu1 := Tryz.underlying27; have hu2 := Tryz.underlying97; have hmf : ∀ (fn : Fn) (first cap : Array Value) (w : World), (Instr.makeFunc fn first cap).run Tryz.prog w = .ok (.func fn first cap) w := fun _ _ _ _ => rfl; obtain ⟨w1, hw1⟩ : ∃ w1, w.alloc (.cells #[.int .i64 a, .int .i64 b, .slice A2 pts.length c2, .slice A3 lens.length c3] 27) = w1 := ⟨_, rfl⟩; have hB1 : Below w.heap.size w w1 := by rw [← hw1]; exact (Below.refl _ _).alloc (Nat.le_refl _) _
  have hbk : w1.heap[w.heap.size]? = some (.cells #[.int .i64 a, .int .i64 b, .slice A2 pts.length c2, .slice A3 lens.length c3] 27 (0, 0)) := by rw [← hw1]; exact blk_new _ _
  have CS : Aside0 (∀ W, Below w.heap.size w W → Calls Tryz.prog 55 #[.agg #[.int .i64 a, .int .i64 b, .slice A2 pts.length c2, .slice A3 lens.length c3]] W fun e w' => e = .returned (.bool (isSiphonB a b pts lens)) ∧ Below W.heap.size W w') :=
    ⟨fun W hW => channel_isSiphon.calls a b A2 c2 pts A3 c3 lens _ W (Kd.C_below hr2 hW) hc2 (Kd.C_below hr3 hW) hc3 (by unfold channel_isSiphon.f; rw [if_pos ⟨hl2, hl3⟩])⟩
  have CC : Aside0 (∀ W, Below w.heap.size w W → Calls Tryz.prog 59 #[.slice A1 cl.length c1] W fun e w' => e = .returned (.bool (areClassesB cl)) ∧ Below W.heap.size W w') :=
    ⟨fun W hW => channel_areClasses.calls A1 c1 cl _ W (Kd.C_below hr1 hW) hc1 (by unfold channel_areClasses.f; rw [if_pos hl1])⟩
  have x0 : w1.cell? ⟨w.heap.size, 0, none⟩ = some (.int .i64 a) := (blk_cell hbk 0).trans rfl; have x1 : w1.cell? ⟨w.heap.size, 1, none⟩ = some (.int .i64 b) := (blk_cell hbk 1).trans rfl; have x2 : w1.cell? ⟨w.heap.size, 2, none⟩ = some (.slice A2 pts.length c2) := (blk_cell hbk 2).trans rfl; have x3 : w1.cell? ⟨w.heap.size, 3, none⟩ = some (.slice A3 lens.length c3) := (blk_cell hbk 3).trans rfl; have HBK := Aside0.mk hbk; clear hbk
  have hcase : isSiphonB a b pts lens = false ∨ (isSiphonB a b pts lens = true ∧ areClassesB cl = false) ∨ (isSiphonB a b pts lens = true ∧ areClassesB cl = true) := by
    cases isSiphonB a b pts lens <;> cases areClassesB cl <;> simp
  rcases hcase with h1 | ⟨h1, h2⟩ | ⟨h1, h2⟩
  case inr.inr =>
    have HG : Aside0 (∀ S0 C0 W, Below w.heap.size w W → W.heap[S0]? = some (.cells #[.int .i64 a, .int .i64 b, .slice A2 pts.length c2, .slice A3 lens.length c3] 27 (0, 0)) → W.heap[C0]? = some (.cells #[.slice A1 cl.length c1] 42 (0, 0)) →
        Calls Tryz.prog 64 #[.func (.func 108) #[] #[.pointer (some ⟨S0, 0, none⟩), .pointer (some ⟨C0, 0, none⟩)], .func (.func 66) #[] #[]] W fun e w' => BestPost (bestP (filtP a b pts lens cl (tails cl.length lens.length))) W e w') :=
      ⟨fun S0 C0 W hW hS hC => best_any S0 C0 a b A2 A3 A1 c2 c3 c1 pts lens cl W h1 h2 hS hC (Kd.C_below hr2 hW) hc2 (Kd.C_below hr3 hW) hc3 (Kd.C_below hr1 hW) hc1⟩
    have HPF : Aside0 (pipesF a b pts lens cl = match bestP (filtP a b pts lens cl (tails cl.length lens.length)) with
      | none => ([], 0, 5)
      | some y => (y.1, y.2, 0)) := ⟨by unfold pipesF; rw [if_pos ⟨h1, h2⟩]⟩
    rw [h1] at CS; rw [h2] at CC; obtain ⟨PF, hPF⟩ : ∃ PF, pipesF a b pts lens cl = PF := ⟨_, rfl⟩; rw [hPF] at HPF ⊢; generalize hbo : bestP (filtP a b pts lens cl (tails cl.length lens.length)) = bo at HG HPF; clear hr1 hr2 hr3 h1 h2 hPF hbo
    go_enter Tryz.func28, Tryz.ntmps28
    go_upto_region 1 with (fail)
    try rw [hw1]
    go_wp2_with (first | (go_at_call 55; refine (CS.out _ hB1).mono ?_; rintro e w2 ⟨rfl, hb2⟩) | (go_at_call 59; refine (CC.out _ (below_step hB1 hb2)).mono ?_; rintro e w3 ⟨rfl, hb3⟩; have hb13 := below_step hb2 hb3; have hbk3 := blk_below HBK.out hb13; have z0 : w3.cell? ⟨w.heap.size, 0, none⟩ = some (.int .i64 a) := (blk_cell hbk3 0).trans rfl; have z1 : w3.cell? ⟨w.heap.size, 1, none⟩ = some (.int .i64 b) := (blk_cell hbk3 1).trans rfl; have z2 : w3.cell? ⟨w.heap.size, 2, none⟩ = some (.slice A2 pts.length c2) := (blk_cell hbk3 2).trans rfl; have z3 : w3.cell? ⟨w.heap.size, 3, none⟩ = some (.slice A3 lens.length c3) := (blk_cell hbk3 3).trans rfl))
    refine (enough_any _ _ _ _ _ _ _ _ _ _ _ _).mono ?_; rintro e w4 ⟨rfl, rfl⟩; obtain ⟨w4, hw4⟩ : ∃ w4, (w3.alloc (.cells #[.int .i64 a, .int .i64 b, .slice A2 pts.length c2, .slice A3 lens.length c3] 27)).alloc (.cells #[.slice A1 cl.length c1] 42) = w4 := ⟨_, rfl⟩; have hB3 : Below w.heap.size w w3 := below_step hB1 hb13; have hB4 : Below w3.heap.size w3 w4 := by rw [← hw4]; exact ((Below.refl _ _).alloc (Nat.le_refl _) _).alloc (by simp) _
    have hS4 : w4.heap[w3.heap.size]? = some (.cells #[.int .i64 a, .int .i64 b, .slice A2 pts.length c2, .slice A3 lens.length c3] 27 (0, 0)) := by rw [← hw4]; exact blk_alloc (blk_new _ _) _
    have hC4 : w4.heap[w3.heap.size + 1]? = some (.cells #[.slice A1 cl.length c1] 42 (0, 0)) := by
      have := blk_new (w3.alloc (.cells #[.int .i64 a, .int .i64 b, .slice A2 pts.length c2, .slice A3 lens.length c3] 27)) (.cells #[.slice A1 cl.length c1] 42); rw [World.size_alloc, hw4] at this; exact this
    rw [hw4]; have CBest := Aside0.mk (HG.out _ _ w4 (below_step hB3 hB4) hS4 hC4); have HB4 := Aside0.mk (below_step hB3 hB4); clear hw4 hS4 hC4 hB3 hB4 z0 z1 z2 z3 hb2 hb3 hb13 hbk3 hw1 x0 x1 x2 x3
    go_wp2_with (fail)
    refine CBest.out.mono ?_; rintro e w5 ⟨⟨A, n, c, p, m, rfl, hbi⟩, hb5⟩; have HB5 := Aside0.mk (below_step HB4.out hb5)
    cases bo with
    | none =>
      have hm : m = false := hbi; subst hm; have HPF2 : Aside0 (PF = ([], 0, 5)) := ⟨HPF.out⟩; clear hbi hb5; go_wp2; refine bodyPost_ret (v := .tuple #[.slice none 0 0, .int .i64 0, .int .i64 5]) (by simp [results, Tryz.results28, go_sem]) rfl ?_; rw [HPF2.out]; exact PipesPost.mk (Kd.R_nil _ _ _ _ _) rfl rfl (HB5.out.alloc HB5.out.size _)
    | some y =>
      obtain ⟨rfl, rfl, rfl, ho⟩ := hbi; have HPF2 : Aside0 (PF = (y.1, y.2, 0)) := ⟨HPF.out⟩; have HO5 := Aside0.mk (ho.weak HB4.out.size); clear ho hb5; go_wp2; obtain ⟨w6, hw6⟩ : ∃ w6, w5.alloc (.cells #[.slice A y.1.length c, .int .i64 y.2] 97) = w6 := ⟨_, rfl⟩; have hb6 : w6.heap[w5.heap.size]? = some (.cells #[.slice A y.1.length c, .int .i64 y.2] 97 (0, 0)) := by rw [← hw6]; exact blk_new _ _
      have HO6 : Aside0 (OwnI w6 w.heap.size (.slice A y.1.length c) y.1) := ⟨by rw [← hw6]; exact Kd.R_alloc HO5.out _⟩; have HB6 : Aside0 (Below w.heap.size w w6) := ⟨by rw [← hw6]; exact HB5.out.alloc HB5.out.size _⟩; rw [hw6]; have y0 : w6.cell? ⟨w5.heap.size, 0, none⟩ = some (.slice A y.1.length c) := (blk_cell hb6 0).trans rfl; have y1 : w6.cell? ⟨w5.heap.size, 1, none⟩ = some (.int .i64 y.2) := (blk_cell hb6 1).trans rfl; clear hw6 hb6
      go_quiet (fail)
      go_wp2; refine bodyPost_ret (v := .tuple #[.slice A y.1.length c, .int .i64 y.2, .int .i64 0]) (by simp [results, Tryz.results28, go_sem]) rfl ?_; rw [HPF2.out]; exact PipesPost.mk (Kd.R_drewN HO6.out _) rfl rfl (pw_below_drewN HB6.out _)
  all_goals
    have HPF : Aside0 (pipesF a b pts lens cl = ([], 0, 2)) := ⟨by unfold pipesF; rw [if_neg (by simp [*])]⟩; rw [h1] at CS; (try rw [h2] at CC); clear hr1 hr2 hr3
    go_enter Tryz.func28, Tryz.ntmps28
    go_upto_region 1 with (fail)
    try rw [hw1]
    go_wp2_with (first | (go_at_call 55; refine (CS.out _ hB1).mono ?_; rintro e w2 ⟨rfl, hb2⟩) | (go_at_call 59; refine (CC.out _ (below_step hB1 hb2)).mono ?_; rintro e w3 ⟨rfl, hb3⟩))
    refine bodyPost_ret (v := .tuple #[.slice none 0 0, .int .i64 0, .int .i64 2]) (by simp [results, Tryz.results28, go_sem]) rfl ?_; rw [HPF.out]
    first
      | exact PipesPost.mk (Kd.R_nil _ _ _ _ _) rfl rfl (below_step hB1 (below_step hb2 hb3))
      | exact PipesPost.mk (Kd.R_nil _ _ _ _ _) rfl rfl (below_step hB1 hb2)
def channel_Pipes.f (a b : Int) (pts : List S23) (lens : List Int) (cl : List S53) : Option (List Int × Int × Int) :=
  if pts.length ≤ 9223372036854775807 ∧ lens.length ≤ 9223372036854775807 ∧ cl.length ≤ 9223372036854775807 then some (pipesF a b pts lens cl) else none
theorem channel_Pipes.calls (a0_0 : Int) (a0_1 : Int) (A0_2 : Option Addr) (c0_2 : Nat) (l0_2 : List S23) (A0_3 : Option Addr) (c0_3 : Nat) (l0_3 : List Int) (A1 : Option Addr) (c1 : Nat) (l1 : List S53) (r1 : List Int) (r2 : Int) (r3 : Int) (w : World) (hr0_2 : Kd.C k23 w A0_2 l0_2.length l0_2) (hc0_2 : l0_2.length ≤ c0_2) (hr0_3 : Kd.C (Kd.int .i64) w A0_3 l0_3.length l0_3) (hc0_3 : l0_3.length ≤ c0_3) (hr1 : Kd.C k53 w A1 l1.length l1) (hc1 : l1.length ≤ c1) (h : channel_Pipes.f a0_0 a0_1 l0_2 l0_3 l1 = some (r1, r2, r3)) :
    Calls Tryz.prog 28 #[.agg #[.int .i64 a0_0, .int .i64 a0_1, .slice A0_2 l0_2.length c0_2, .slice A0_3 l0_3.length c0_3], .slice A1 l1.length c1] w fun e w' => ∃ v0_ : Value, e = .returned (.tuple #[v0_, .int .i64 r2, .int .i64 r3]) ∧ Kd.R (Kd.int .i64) 3 w' w.heap.size (fun _ => True) v0_ r1 ∧ Below w.heap.size w w' := by
  unfold channel_Pipes.f at h
  by_cases hl : l0_2.length ≤ 9223372036854775807 ∧ l0_3.length ≤ 9223372036854775807 ∧ l1.length ≤ 9223372036854775807
  case neg => rw [if_neg hl] at h; cases h
  rw [if_pos hl] at h; have h := Option.some.inj h; have := pipes_any a0_0 a0_1 A0_2 A0_3 A1 c0_2 c0_3 c1 l0_2 l0_3 l1 w hl.1 hl.2.1 hl.2.2 hr0_2 hc0_2 hr0_3 hc0_3 hr1 hc1; rw [h] at this; exact this
end Go.Proofs.YtdmdahafiiggiabGreatDoor.K
end
section
namespace Go.Proofs.YtdmdahafiiggiabGreatDoor.K
open Go.RowKit Go.Deep Go.ChangeShapes Go.WideShapes Go.ChangeAt Go.Proofs.YtdmdahafiiggiabGreatDoorW.PrintWords Go.Proofs.YtdmdahafiiggiabGreatDoorW.PrintLast Go.Proofs.YtdmdahafiiggiabGreatDoorW.PrintMore
set_option maxRecDepth 100000
section
variable {H : Type} {enc : TypeId × Value → H} {w : World} {base : Nat} {spare : Nat → Bool} {held : Bool} {fuel : Nat} {cs : List Value} {x : DataW H × List MemPlace}
theorem list1 {α : Type} {l : List α} (h : l.length = 1) : ∃ a, l = [a] := by
  cases l with
  | nil => cases h
  | cons a l => cases l with
    | nil => exact ⟨a, rfl⟩
    | cons b l => simp at h
theorem list_succ {α : Type} {l : List α} {n : Nat} (h : l.length = n + 1) : ∃ a m, l = a :: m ∧ m.length = n := by
  cases l with
  | nil => simp at h
  | cons a m => exact ⟨a, m, rfl, by simpa using h⟩
theorem cSz : Tryz.prog.cellsOf 3 = 1 ∧ Tryz.prog.cellsOf 23 = 2 ∧ Tryz.prog.cellsOf 66 = 5 ∧ Tryz.prog.cellsOf 25 = 1 ∧ Tryz.prog.cellsOf 58 = 1 ∧ Tryz.prog.cellsOf 60 = 2 := ⟨by kernel_rfl, by kernel_rfl, by kernel_rfl, by kernel_rfl, by kernel_rfl, by kernel_rfl⟩
theorem el_int {fuel : Nat} {cs : List Value} {x : DataW H × List MemPlace} (h : DataW.trod enc Tryz.prog w base spare held fuel 3 cs = some x) : ∃ z : Int, cs = [.int .i64 z] := by
  obtain ⟨z, e, _⟩ := DataW.trod_int Tryz.underlying3 h; exact ⟨z, e⟩
theorem some_at {α : Type} {xs : List α} {i : Nat} (h : i < xs.length) : ∃ y, xs[i]? = some y := ⟨_, List.getElem?_eq_getElem h⟩
theorem el_span {fuel : Nat} {cs : List Value} {x : DataW H × List MemPlace} (h : DataW.trod enc Tryz.prog w base spare held fuel 23 cs = some x) : ∃ s : S23, cs = [.int .i64 s.f0, .int .i64 s.f1] := by
  obtain ⟨xs, n, -, -, hl, hx, hf⟩ := DataW.trod_struct Tryz.underlying23 h; rw [cSz.2.1] at hl; obtain ⟨a, m, rfl, hl2⟩ := list_succ hl; obtain ⟨b, rfl⟩ := list1 hl2; have hx : xs.length = 2 := hx; obtain ⟨y0, h0⟩ := some_at (xs := xs) (i := 0) (by omega); obtain ⟨y1, h1⟩ := some_at (xs := xs) (i := 1) (by omega); have f0 := (hf 0 _ rfl).trans h0; have f1 := (hf 1 _ rfl).trans h1
  change DataW.trod enc Tryz.prog w base spare held n 3 (([a, b].drop 0).take (Tryz.prog.cellsOf 3)) = _ at f0
  rw [cSz.1] at f0; replace f0 : DataW.trod enc Tryz.prog w base spare held n 3 [a] = _ := f0
  change DataW.trod enc Tryz.prog w base spare held n 3 (([a, b].drop 1).take (Tryz.prog.cellsOf 3)) = _ at f1
  rw [cSz.1] at f1; replace f1 : DataW.trod enc Tryz.prog w base spare held n 3 [b] = _ := f1; obtain ⟨z0, e0⟩ := el_int f0; obtain ⟨z1, e1⟩ := el_int f1
  cases e0
  cases e1
  exact ⟨⟨z0, z1⟩, rfl⟩
theorem choose_list {α : Type} {P : Nat → α → Prop} : ∀ n : Nat, (∀ j, j < n → ∃ a, P j a) → ∃ xs : List α, xs.length = n ∧ ∀ j p, xs[j]? = some p → P j p
  | 0, _ => ⟨[], rfl, fun j p h => by simp at h⟩
  | n + 1, h => by
    obtain ⟨xs, hl, hx⟩ := choose_list n (fun j hj => h j (by omega)); obtain ⟨a, ha⟩ := h n (by omega); refine ⟨xs ++ [a], by simp [hl], fun j p hp => ?_⟩
    by_cases hj : j < xs.length
    · rw [List.getElem?_append_left hj] at hp; exact hx j p hp
    · rw [List.getElem?_append_right (by omega)] at hp
      have : j = n := by
        have := (List.getElem?_eq_some_iff.1 hp).1; simp at this; omega
      subst this; rw [hl, Nat.sub_self] at hp; obtain rfl : a = p := by simpa using hp
      exact ha
theorem open_rows {α : Type} (d : Kd α) {t e : TypeId} {fuel : Nat} {cs : List Value} {x : DataW H × List MemPlace} (encs : α → List Value) (ht : Tryz.prog.underlying t = some (.slice e)) (hsz : Tryz.prog.cellsOf e = d.sz) (hn : ∀ a, (encs a).length = d.sz) (h0 : 0 < d.sz) (hK : ∀ a, d.K w a (encs a))
    (hel : ∀ (fuel : Nat) (cs : List Value) (x : DataW H × List MemPlace), DataW.trod enc Tryz.prog w base spare held fuel e cs = some x → ∃ a, cs = encs a) (h : DataW.trod enc Tryz.prog w base spare held fuel t cs = some x) :
    ∃ (A : Option Addr) (xs : List α) (c : Nat), cs = [.slice A xs.length c] ∧ Kd.C d w A xs.length xs ∧ xs.length ≤ c ∧ xs.length ≤ maxLen := by
  rcases open_slice ht h with ⟨rfl, _⟩ | ⟨a, len, cap, m, n, D, Pl, rfl, _, hl, hm, hmm, _, hall⟩
  · exact ⟨none, [], 0, rfl, ⟨rfl, by simp, fun h => absurd h (by simp)⟩, Nat.le_refl _, Nat.zero_le _⟩
  · have hlm : len ≤ m := by rw [hmm]; split <;> omega
    obtain ⟨xs, hxl, hx⟩ := choose_list (P := fun j (p : α) => w.cells? base (a.add (j * d.sz)) d.sz = some (encs p)) len (fun j hj => by
      obtain ⟨cs', h1, h2⟩ := hall j (by omega); obtain ⟨p, rfl⟩ := hel _ _ _ h2; rw [hsz] at h1
      exact ⟨p, h1⟩)
    refine ⟨some a, xs, cap, by rw [hxl], ⟨rfl, by rw [hxl]; unfold maxLen at hm; omega, fun _ => ⟨a, rfl, fun j p hp => ⟨encs p, hn p, hK p, fun i u hi => ?_⟩⟩⟩, by omega, by omega⟩; have h1 := World.cells?_some (hx j p hp); have hi' : i < d.sz := by have := (List.getElem?_eq_some_iff.1 hi).1; rw [hn] at this; exact this
    have h2 := h1.2.2 i hi'; rw [hi] at h2
    have h3 : a.add (j * d.sz + i) = (a.add (j * d.sz)).add i := by
      unfold Addr.add
      by_cases e1 : j * d.sz = 0 <;> by_cases e2 : i = 0 <;> simp [e1, e2] <;> omega
    rw [h3]; exact h2
theorem el_class {fuel : Nat} {cs : List Value} {x : DataW H × List MemPlace} (h : DataW.trod enc Tryz.prog w base spare held fuel 53 cs = some x) : ∃ s : S53, cs = [.int .i64 s.f0, .int .i64 s.f1, .int .i64 s.f2] := by
  obtain ⟨xs, n, -, -, hl, hx, hf⟩ := DataW.trod_struct Tryz.underlying53 h; rw [show Tryz.prog.cellsOf 53 = 3 by kernel_rfl] at hl; obtain ⟨a, m1, rfl, hl1⟩ := list_succ hl; obtain ⟨b, m2, rfl, hl2⟩ := list_succ hl1; obtain ⟨c, rfl⟩ := list1 hl2; have hx : xs.length = 3 := hx; obtain ⟨y0, h0⟩ := some_at (xs := xs) (i := 0) (by omega); obtain ⟨y1, h1⟩ := some_at (xs := xs) (i := 1) (by omega); obtain ⟨y2, h2⟩ := some_at (xs := xs) (i := 2) (by omega); have f0 := (hf 0 _ rfl).trans h0; have f1 := (hf 1 _ rfl).trans h1; have f2 := (hf 2 _ rfl).trans h2
  change DataW.trod enc Tryz.prog w base spare held n 3 (([a, b, c].drop 0).take (Tryz.prog.cellsOf 3)) = _ at f0
  rw [cSz.1] at f0; replace f0 : DataW.trod enc Tryz.prog w base spare held n 3 [a] = _ := f0
  change DataW.trod enc Tryz.prog w base spare held n 3 (([a, b, c].drop 1).take (Tryz.prog.cellsOf 3)) = _ at f1
  rw [cSz.1] at f1; replace f1 : DataW.trod enc Tryz.prog w base spare held n 3 [b] = _ := f1
  change DataW.trod enc Tryz.prog w base spare held n 3 (([a, b, c].drop 2).take (Tryz.prog.cellsOf 3)) = _ at f2
  rw [cSz.1] at f2; replace f2 : DataW.trod enc Tryz.prog w base spare held n 3 [c] = _ := f2; obtain ⟨z0, e0⟩ := el_int f0; obtain ⟨z1, e1⟩ := el_int f1; obtain ⟨z2, e2⟩ := el_int f2
  cases e0
  cases e1
  cases e2
  exact ⟨⟨z0, z1, z2⟩, rfl⟩
structure At' {α : Type} (d : Kd α) (W : World) (A : Option Addr) (n cp : Nat) (xs : List α) : Prop where
  c : Kd.C d W A n xs
  le : n ≤ cp
theorem At'.below {α : Type} {d : Kd α} {W W1 : World} {A : Option Addr} {n c : Nat} {xs : List α} (h : At' d W A n c xs) (hb : Below W.heap.size W W1) : At' d W1 A n c xs := ⟨Kd.C_below h.c hb, h.le⟩
theorem At'.of_R {α : Type} {d : Kd α} {e base : Nat} {W : World} {v : Value} {xs : List α} (h : d.R e W base (fun _ => True) v xs) : ∃ A c, v = .slice A xs.length c ∧ At' d W A xs.length c xs := by
  obtain ⟨A, c, rfl, hl, hc⟩ := Kd.R_reads h; exact ⟨A, c, rfl, hc, hl⟩
theorem rows_ints {fuel : Nat} {cs : List Value} {x : DataW H × List MemPlace} (h : DataW.trod enc Tryz.prog w base spare held fuel 25 cs = some x) : ∃ (A : Option Addr) (xs : List Int) (c : Nat), cs = [.slice A xs.length c] ∧ At' (Kd.int .i64) w A xs.length c xs := by
  obtain ⟨A, xs, c, h1, h2, h3, _⟩ := open_rows (Kd.int .i64) (fun x => [Value.int .i64 x]) Tryz.underlying25 (by kernel_rfl) (fun _ => rfl) (by decide) (fun _ => rfl) (fun _ _ _ h => el_int h) h; exact ⟨A, xs, c, h1, h2, h3⟩
theorem open_ints {v : Value} {dd : DataW H} {p : List MemPlace} (hv : Value.okWide Tryz.prog w .any base 25 v) (h : DataW.Trod enc Tryz.prog w 0 spare held 25 v dd p) : ∃ (A : Option Addr) (xs : List Int) (c : Nat), v = .slice A xs.length c ∧ At' (Kd.int .i64) w A xs.length c xs := by
  obtain ⟨a, len, cap, rfl⟩ := okWide_slice Tryz.underlying25 hv; obtain ⟨fuel, h⟩ := h; obtain ⟨A, xs, c, h1, h2⟩ := rows_ints h; simp [Value.cells] at h1; obtain ⟨rfl, rfl, rfl⟩ := h1; exact ⟨_, xs, _, rfl, h2⟩
theorem rows_spans {fuel : Nat} {cs : List Value} {x : DataW H × List MemPlace} (h : DataW.trod enc Tryz.prog w base spare held fuel 24 cs = some x) : ∃ (A : Option Addr) (xs : List S23) (c : Nat), cs = [.slice A xs.length c] ∧ At' k23 w A xs.length c xs := by
  obtain ⟨A, xs, c, h1, h2, h3, _⟩ := open_rows k23 (fun s => [.int .i64 s.f0, .int .i64 s.f1]) Tryz.underlying24 (by kernel_rfl) (fun _ => rfl) (by decide) (fun s => k23_mk w s) (fun _ _ _ h => el_span h) h; exact ⟨A, xs, c, h1, h2, h3⟩
theorem rows_classes {fuel : Nat} {cs : List Value} {x : DataW H × List MemPlace} (h : DataW.trod enc Tryz.prog w base spare held fuel 42 cs = some x) : ∃ (A : Option Addr) (xs : List S53) (c : Nat), cs = [.slice A xs.length c] ∧ At' k53 w A xs.length c xs := by
  obtain ⟨A, xs, c, h1, h2, h3, _⟩ := open_rows k53 (fun s => [.int .i64 s.f0, .int .i64 s.f1, .int .i64 s.f2]) Tryz.underlying42 (by kernel_rfl) (fun _ => rfl) (by decide) (fun s => k53_mk w s) (fun _ _ _ h => el_class h) h; exact ⟨A, xs, c, h1, h2, h3⟩
theorem open_classes {v : Value} {dd : DataW H} {p : List MemPlace} (hv : Value.okWide Tryz.prog w .any base 42 v) (h : DataW.Trod enc Tryz.prog w 0 spare held 42 v dd p) : ∃ (A : Option Addr) (xs : List S53) (c : Nat), v = .slice A xs.length c ∧ At' k53 w A xs.length c xs := by
  obtain ⟨a, len, cap, rfl⟩ := okWide_slice Tryz.underlying42 hv; obtain ⟨fuel, h⟩ := h; obtain ⟨A, xs, c, h1, h2⟩ := rows_classes h; simp [Value.cells] at h1; obtain ⟨rfl, rfl, rfl⟩ := h1; exact ⟨_, xs, _, rfl, h2⟩
theorem agg_list {cs : Array Value} {l : List Value} (h : cs.toList = l) : cs = l.toArray := by rw [← h]
theorem open_siphon {v : Value} {dd : DataW H} {p : List MemPlace} (hv : Value.okWide Tryz.prog w .any base 27 v) (h : DataW.Trod enc Tryz.prog w 0 spare held 27 v dd p) :
    ∃ (x y : Int) (A0 : Option Addr) (pts : List S23) (c0 : Nat) (A1 : Option Addr) (lens : List Int) (c1 : Nat), v = .agg #[.int .i64 x, .int .i64 y, .slice A0 pts.length c0, .slice A1 lens.length c1] ∧ At' k23 w A0 pts.length c0 pts ∧ At' (Kd.int .i64) w A1 lens.length c1 lens := by
  obtain ⟨cs, rfl, -⟩ := okWide_struct Tryz.underlying27 hv; obtain ⟨fuel, h⟩ := h; obtain ⟨xs, n, -, -, hl, hx, hf⟩ := DataW.trod_struct Tryz.underlying27 h; rw [show Tryz.prog.cellsOf 27 = 4 by kernel_rfl] at hl; obtain ⟨a, m1, e1, hl1⟩ := list_succ hl; obtain ⟨b, m2, rfl, hl2⟩ := list_succ hl1; obtain ⟨c, m3, rfl, hl3⟩ := list_succ hl2; obtain ⟨d, rfl⟩ := list1 hl3; rw [e1] at hf; have hx : xs.length = 3 := hx; obtain ⟨y0, h0⟩ := some_at (xs := xs) (i := 0) (by omega); obtain ⟨y1, h1⟩ := some_at (xs := xs) (i := 1) (by omega); obtain ⟨y2, h2⟩ := some_at (xs := xs) (i := 2) (by omega); have f0 := (hf 0 _ rfl).trans h0; have f1 := (hf 1 _ rfl).trans h1; have f2 := (hf 2 _ rfl).trans h2
  change DataW.trod enc Tryz.prog w 0 spare held n 23 (([a, b, c, d].drop 0).take (Tryz.prog.cellsOf 23)) = _ at f0
  rw [cSz.2.1] at f0; replace f0 : DataW.trod enc Tryz.prog w 0 spare held n 23 [a, b] = _ := f0
  change DataW.trod enc Tryz.prog w 0 spare held n 24 (([a, b, c, d].drop 2).take (Tryz.prog.cellsOf 24)) = _ at f1
  rw [show Tryz.prog.cellsOf 24 = 1 by kernel_rfl] at f1; replace f1 : DataW.trod enc Tryz.prog w 0 spare held n 24 [c] = _ := f1
  change DataW.trod enc Tryz.prog w 0 spare held n 25 (([a, b, c, d].drop 3).take (Tryz.prog.cellsOf 25)) = _ at f2
  rw [cSz.2.2.2.1] at f2; replace f2 : DataW.trod enc Tryz.prog w 0 spare held n 25 [d] = _ := f2; obtain ⟨s, k⟩ := el_span f0; obtain ⟨A0, pts, c0, k0, g0⟩ := rows_spans f1; obtain ⟨A1, lens, c1, k1, g1⟩ := rows_ints f2
  cases k
  cases k0
  cases k1
  have e1 : cs.toList = _ := e1; exact ⟨s.f0, s.f1, A0, pts, c0, A1, lens, c1, by rw [agg_list e1], g0, g1⟩
theorem open_num {v : Value} {dd : DataW H} {p : List MemPlace} (hv : Value.okWide Tryz.prog w .any base 3 v) (h : DataW.Trod enc Tryz.prog w 0 spare held 3 v dd p) : ∃ z : Int, v = .int .i64 z ∧ (Lit.int .i64 z).wf = true := by
  obtain ⟨n, e, _, hn⟩ := open_int Tryz.underlying3 hv h; exact ⟨n, e, hn.2⟩
end
end Go.Proofs.YtdmdahafiiggiabGreatDoor.K
end
section
namespace Go.Proofs
open Go.Shelf
def Tryz.itoaL_ren : Go.Shelf.Ren := ⟨fun | 171 => 115 | 243 => 132 | 246 => 147 | 283 => 158 | 284 => 159 | 285 => 160 | 286 => 161 | 129 => 144 | 317 => 167 | 318 => 168 | 319 => 169 | 320 => 170 | 337 => 176 | 338 => 177 | n => n, fun | 3 => 3 | 9 => 9 | 2 => 2 | 4 => 4 | 171 => 199 | 0 => 0 | 53 => 188 | 37 => 82 | 5 => 5 | 173 => 201 | 212 => 211 | 51 => 186 | 20 => 20 | 213 => 212 | 46 => 165 | 232 => 219 | 233 => 220 | n => n, fun | 17 => 0 | 18 => 4 | 19 => 5 | n => n⟩
theorem Tryz.itoaL : Go.Proofs.LaysM.n171 Tryz.prog Tryz.itoaL_ren := {
  mixed := by kernel_rfl
  f129 := Tryz.func144.trans (congrArg some (by kernel_rfl))
  f171 := Tryz.func115.trans (congrArg some (by kernel_rfl))
  f243 := Tryz.func132.trans (congrArg some (by kernel_rfl))
  f246 := Tryz.func147.trans (congrArg some (by kernel_rfl))
  f283 := Tryz.func158.trans (congrArg some (by kernel_rfl))
  f284 := Tryz.func159.trans (congrArg some (by kernel_rfl))
  f285 := Tryz.func160.trans (congrArg some (by kernel_rfl))
  f286 := Tryz.func161.trans (congrArg some (by kernel_rfl))
  f317 := Tryz.func167.trans (congrArg some (by kernel_rfl))
  f318 := Tryz.func168.trans (congrArg some (by kernel_rfl))
  f319 := Tryz.func169.trans (congrArg some (by kernel_rfl))
  f320 := Tryz.func170.trans (congrArg some (by kernel_rfl))
  f337 := Tryz.func176.trans (congrArg some (by kernel_rfl))
  f338 := Tryz.func177.trans (congrArg some (by kernel_rfl))
  t0 := Tryz.underlying0
  a0 := Tryz.isAgg0
  z0 := Tryz.sizeOf0
  v0 := Tryz.zeroValue0
  t2 := Tryz.underlying2
  a2 := Tryz.isAgg2
  z2 := Tryz.sizeOf2
  v2 := Tryz.zeroValue2
  t3 := Tryz.underlying3
  a3 := Tryz.isAgg3
  z3 := Tryz.sizeOf3
  v3 := Tryz.zeroValue3
  t4 := Tryz.underlying4
  a4 := Tryz.isAgg4
  z4 := Tryz.sizeOf4
  v4 := Tryz.zeroValue4
  t5 := Tryz.underlying5
  a5 := Tryz.isAgg5
  z5 := Tryz.sizeOf5
  v5 := Tryz.zeroValue5
  t9 := Tryz.underlying9
  a9 := Tryz.isAgg9
  z9 := Tryz.sizeOf9
  v9 := Tryz.zeroValue9
  t20 := Tryz.underlying20
  a20 := Tryz.isAgg20
  z20 := Tryz.sizeOf20
  v20 := Tryz.zeroValue20
  t37 := Tryz.underlying82
  a37 := Tryz.isAgg82
  z37 := Tryz.sizeOf82
  v37 := Tryz.zeroValue82
  t46 := Tryz.underlying165
  a46 := Tryz.isAgg165
  z46 := Tryz.sizeOf165
  v46 := Tryz.zeroValue165
  t51 := Tryz.underlying186
  a51 := Tryz.isAgg186
  z51 := Tryz.sizeOf186
  v51 := Tryz.zeroValue186
  t53 := Tryz.underlying188
  a53 := Tryz.isAgg188
  z53 := Tryz.sizeOf188
  v53 := Tryz.zeroValue188
  t171 := Tryz.underlying199
  a171 := Tryz.isAgg199
  z171 := Tryz.sizeOf199
  v171 := Tryz.zeroValue199
  t173 := Tryz.underlying201
  a173 := Tryz.isAgg201
  z173 := Tryz.sizeOf201
  v173 := Tryz.zeroValue201
  t212 := Tryz.underlying211
  a212 := Tryz.isAgg211
  z212 := Tryz.sizeOf211
  v212 := Tryz.zeroValue211
  t213 := Tryz.underlying212
  a213 := Tryz.isAgg212
  z213 := Tryz.sizeOf212
  t232 := Tryz.underlying219
  a232 := Tryz.isAgg219
  z232 := Tryz.sizeOf219
  v232 := Tryz.zeroValue219
  t233 := Tryz.underlying220
  a233 := Tryz.isAgg220
  z233 := Tryz.sizeOf220
  v233 := Tryz.zeroValue220
  g17 := by kernel_rfl
  g18 := by kernel_rfl
  g19 := by kernel_rfl
  i0 := by kernel_rfl
  i2 := by kernel_rfl
  i3 := by kernel_rfl
  i4 := by kernel_rfl
  i5 := by kernel_rfl
  i9 := by kernel_rfl
  i20 := by kernel_rfl
  i37 := by kernel_rfl
  i46 := by kernel_rfl
  i51 := by kernel_rfl
  i53 := by kernel_rfl
  i171 := by kernel_rfl
  i173 := by kernel_rfl
  i212 := by kernel_rfl
  i232 := by kernel_rfl
  i233 := by kernel_rfl
  m17 := by kernel_rfl
  m18 := by kernel_rfl
  m19 := by kernel_rfl }
def Tryz.splitL_ren : Go.Shelf.Ren := ⟨fun | 146 => 117 | 221 => 133 | 268 => 148 | 138 => 149 | 143 => 150 | 195 => 162 | 197 => 163 | 218 => 164 | 219 => 165 | 260 => 171 | 217 => 172 | 225 => 173 | 224 => 174 | 267 => 175 | 266 => 178 | 314 => 179 | n => n, fun | 9 => 9 | 31 => 117 | 3 => 3 | 4 => 4 | 0 => 0 | 105 => 204 | 21 => 21 | 5 => 5 | 46 => 165 | 119 => 213 | 139 => 216 | 138 => 215 | 146 => 217 | 51 => 186 | n => n, fun | 1 => 1 | 3 => 2 | 4 => 3 | n => n⟩
theorem Tryz.splitL : Go.Proofs.Lays.n146 Tryz.prog Tryz.splitL_ren := {
  mixed := by kernel_rfl
  f138 := Tryz.func149.trans (congrArg some (by kernel_rfl))
  f143 := Tryz.func150.trans (congrArg some (by kernel_rfl))
  f146 := Tryz.func117.trans (congrArg some (by kernel_rfl))
  f195 := Tryz.func162.trans (congrArg some (by kernel_rfl))
  f197 := Tryz.func163.trans (congrArg some (by kernel_rfl))
  f217 := Tryz.func172.trans (congrArg some (by kernel_rfl))
  f218 := Tryz.func164.trans (congrArg some (by kernel_rfl))
  f219 := Tryz.func165.trans (congrArg some (by kernel_rfl))
  f221 := Tryz.func133.trans (congrArg some (by kernel_rfl))
  f224 := Tryz.func174.trans (congrArg some (by kernel_rfl))
  f225 := Tryz.func173.trans (congrArg some (by kernel_rfl))
  f260 := Tryz.func171.trans (congrArg some (by kernel_rfl))
  f266 := Tryz.func178.trans (congrArg some (by kernel_rfl))
  f267 := Tryz.func175.trans (congrArg some (by kernel_rfl))
  f268 := Tryz.func148.trans (congrArg some (by kernel_rfl))
  f314 := Tryz.func179.trans (congrArg some (by kernel_rfl))
  t0 := Tryz.underlying0
  a0 := Tryz.isAgg0
  z0 := Tryz.sizeOf0
  v0 := Tryz.zeroValue0
  t3 := Tryz.underlying3
  a3 := Tryz.isAgg3
  z3 := Tryz.sizeOf3
  v3 := Tryz.zeroValue3
  t4 := Tryz.underlying4
  a4 := Tryz.isAgg4
  z4 := Tryz.sizeOf4
  v4 := Tryz.zeroValue4
  t5 := Tryz.underlying5
  a5 := Tryz.isAgg5
  z5 := Tryz.sizeOf5
  v5 := Tryz.zeroValue5
  t9 := Tryz.underlying9
  a9 := Tryz.isAgg9
  z9 := Tryz.sizeOf9
  v9 := Tryz.zeroValue9
  t21 := Tryz.underlying21
  a21 := Tryz.isAgg21
  z21 := Tryz.sizeOf21
  v21 := Tryz.zeroValue21
  t31 := Tryz.underlying117
  a31 := Tryz.isAgg117
  z31 := Tryz.sizeOf117
  v31 := Tryz.zeroValue117
  t46 := Tryz.underlying165
  a46 := Tryz.isAgg165
  z46 := Tryz.sizeOf165
  v46 := Tryz.zeroValue165
  t51 := Tryz.underlying186
  a51 := Tryz.isAgg186
  z51 := Tryz.sizeOf186
  v51 := Tryz.zeroValue186
  t105 := Tryz.underlying204
  a105 := Tryz.isAgg204
  z105 := Tryz.sizeOf204
  v105 := Tryz.zeroValue204
  t119 := Tryz.underlying213
  a119 := Tryz.isAgg213
  z119 := Tryz.sizeOf213
  t138 := Tryz.underlying215
  a138 := Tryz.isAgg215
  z138 := Tryz.sizeOf215
  v138 := Tryz.zeroValue215
  t139 := Tryz.underlying216
  a139 := Tryz.isAgg216
  z139 := Tryz.sizeOf216
  v139 := Tryz.zeroValue216
  t146 := Tryz.underlying217
  a146 := Tryz.isAgg217
  z146 := Tryz.sizeOf217
  v146 := Tryz.zeroValue217
  g1 := by kernel_rfl
  g3 := by kernel_rfl
  g4 := by kernel_rfl }
end Go.Proofs
end
section
namespace Go.Proofs.YtdmdahafiiggiabGreatDoor.K
open Go.RowKit Go.Proofs.YtdmdahafiiggiabGreatDoorW.PrintWords Go.Proofs.YtdmdahafiiggiabGreatDoorW.PrintLast Go.Proofs.YtdmdahafiiggiabGreatDoorW.PrintMore
theorem head_word_any (v : Value) (w : World) : Calls Tryz.prog 196 #[v] w fun e w' => e = .returned (.string ⟨#[115, 112, 101, 101, 100, 115]⟩) ∧ w = w' := by
  go_enter Tryz.func196, Tryz.ntmps196
  go_wp2; go_ret; exact ⟨rfl, rfl⟩
theorem head_numbers_any (v : Value) (w : World) : Calls Tryz.prog 195 #[v] w fun e w' => e = .returned v ∧ w = w' := by
  go_enter Tryz.func195, Tryz.ntmps195
  go_wp2; go_ret; exact ⟨rfl, rfl⟩
theorem part_word_any (a b c d e0 : Int) (w : World) : Calls Tryz.prog 198 #[.agg #[.int .i64 a, .int .i64 b, .int .i64 c, .int .i64 d, .int .i64 e0]] w fun e w' => e = .returned (.string ⟨#[115, 116, 114, 101, 116, 99, 104]⟩) ∧ Below w.heap.size w w' := by
  go_enter Tryz.func198, Tryz.ntmps198
  go_wp2; go_ret; exact ⟨rfl, (Below.refl _ _).alloc (Nat.le_refl _) _⟩
set_option maxRecDepth 100000 in
theorem part_numbers_any (a b c d e0 : Int) (w : World) : Calls Tryz.prog 197 #[.agg #[.int .i64 a, .int .i64 b, .int .i64 c, .int .i64 d, .int .i64 e0]] w fun e w' => ∃ v, e = .returned v ∧ Kd.R (Kd.int .i64) 3 w' w.heap.size (fun _ => True) v [a, b, c, d, e0] ∧ Below w.heap.size w w' := by
  have hu1 := Tryz.underlying150; have hu2 := Tryz.underlying23; have hu3 := Tryz.underlying66
  go_enter Tryz.func197, Tryz.ntmps197
  go_wp2; go_ret; refine ⟨.slice (some ⟨w.heap.size + 1, 0, none⟩) 5 5, rfl, ⟨fun _ _ => trivial, [.int .i64 a, .int .i64 b, .int .i64 c, .int .i64 d, .int .i64 e0], ?_, ?_⟩, ((Below.refl _ _).alloc (Nat.le_refl _) _).alloc (by simp) _⟩
  · have := World.ownsRow_lit (base := w.heap.size) (e := 3) (size := 1) (w.alloc (.cells #[.int .i64 a, .int .i64 b, .int .i64 c, .int .i64 d, .int .i64 e0] 150)) #[.int .i64 a, .int .i64 b, .int .i64 c, .int .i64 d, .int .i64 e0] 5 (by simp) (by unfold maxLen; omega) rfl; rw [World.size_alloc] at this; exact this
  · exact Reps.one rfl (Reps.one rfl (Reps.one rfl (Reps.one rfl (Reps.one rfl (Reps.none _ _)))))
end Go.Proofs.YtdmdahafiiggiabGreatDoor.K
end
section
namespace Go.Proofs.YtdmdahafiiggiabGreatDoor.K
open Go.RowKit Go.Proofs.YtdmdahafiiggiabGreatDoorW.PrintWords Go.Proofs.YtdmdahafiiggiabGreatDoorW.PrintLast Go.Proofs.YtdmdahafiiggiabGreatDoorW.PrintMore
inductive TRow where
  | head (A : Option Addr) (n c : Nat)
  | part (s : S66)
def encRow : TRow → Value
  | .head A n c => .iface 147 (.slice A n c)
  | .part s => .iface 150 (.agg #[.int .i64 s.f0, .int .i64 s.f1, .int .i64 s.f2, .int .i64 s.f3.f0, .int .i64 s.f3.f1])
theorem encRow_one (x : TRow) : (encRow x).oneCell' = true := by cases x <;> rfl
def kRow : Kd TRow := Kd.scalar encRow encRow_one
theorem row_new (x : TRow) (W : World) (base : Nat) (hb : base ≤ W.heap.size) (e : TypeId) : Kd.R kRow e (W.alloc (.cells #[encRow x] e)) base (fun _ => True) (.slice (some ⟨W.heap.size, 0, none⟩) 1 1) [x] := by
  refine ⟨fun _ _ => trivial, [encRow x], ?_, ?_⟩
  · exact World.ownsRow_lit W #[encRow x] 1 hb (by unfold maxLen; omega) rfl
  · exact Reps.one rfl (Reps.none _ _)
theorem infoRow : (Tryz.prog.info? 152).map (fun i => (i.zero, i.size, i.bytes)) = some (some .nilIface, 1, 16) := by kernel_rfl
theorem rows_head {A A' : Option Addr} {n n' c c' i : Nat} {st : List S66} (h : (TRow.head A n c :: st.map TRow.part).getD i (TRow.head none 0 0) = TRow.head A' n' c') (hi : i < st.length + 1) : i = 0 ∧ A' = A ∧ n' = n ∧ c' = c := by
  cases i with
  | zero => simp at h; exact ⟨rfl, h.1.symm, h.2.1.symm, h.2.2.symm⟩
  | succ i =>
    have hi' : i < st.length := by omega
    simp [List.getD, List.getElem?_eq_getElem hi'] at h
theorem rows_part {A : Option Addr} {n c i : Nat} {st : List S66} {s : S66} (h : (TRow.head A n c :: st.map TRow.part).getD i (TRow.head none 0 0) = TRow.part s) (hi : i < st.length + 1) : ∃ k, i = k + 1 ∧ st[k]? = some s := by
  cases i with
  | zero => simp at h
  | succ i =>
    have hi' : i < st.length := by omega
    simp [List.getD, List.getElem?_eq_getElem hi'] at h; exact ⟨i, rfl, by rw [List.getElem?_eq_getElem hi', h]⟩
structure TextW (w : World) (A0_0 A0_1 : Option Addr) (c0_0 c0_1 ns nt : Nat) (W : World) : Prop where
  hb : Below w.heap.size w W
  lt : w.heap.size + 1 ≤ W.heap.size
  sp : W.cell? ⟨w.heap.size, 0, none⟩ = some (.slice A0_0 ns c0_0)
  st : W.cell? ⟨w.heap.size, 1, none⟩ = some (.slice A0_1 nt c0_1)
theorem TextW.below {w : World} {A0_0 A0_1 : Option Addr} {c0_0 c0_1 ns nt : Nat} {W W1 : World} (h : TextW w A0_0 A0_1 c0_0 c0_1 ns nt W) (hb : Below (w.heap.size + 1) W W1) : TextW w A0_0 A0_1 c0_0 c0_1 ns nt W1 :=
  ⟨h.hb.trans (hb.mono (by omega)), Nat.le_trans h.lt hb.size, (hb.cell (p := ⟨w.heap.size, 0, none⟩) (by simp)).trans h.sp, (hb.cell (p := ⟨w.heap.size, 1, none⟩) (by simp)).trans h.st⟩
def TabW (w : World) : Prop := Lib.TabIs Tryz.prog w "internal/strconv.uint64pow10" .u64 Lib.pow10Tab
theorem TabW.below {w w1 : World} (h : TabW w) (hb : Below w.heap.size w w1) : TabW w1 := by
  unfold TabW Lib.TabIs World.var? at *
  cases hg : Tryz.prog.globalNamed "internal/strconv.uint64pow10" with
  | none => rw [hg] at h; cases h
  | some g =>
    rw [hg] at h; simp only [Option.bind_some] at h ⊢
    have hlt : g < w.heap.size := by
      rcases Nat.lt_or_ge g w.heap.size with h1 | h1
      · exact h1
      · simp [Array.getElem?_eq_none h1] at h
    rw [hb.block g hlt]; exact h
def Good (w : World) (x : Int) : Prop := 0 ≤ x ∧ (x < 100 ∨ (x ≤ 1000000 ∧ TabW w))
theorem Good.below {w w1 : World} {x : Int} (h : Good w x) (hb : Below w.heap.size w w1) : Good w1 x := ⟨h.1, h.2.imp id fun h => ⟨h.1, h.2.below hb⟩⟩
def itoaS (x : Int) : ByteArray := ⟨(Lib.itoa x).toArray⟩
theorem below_growK {w : World} (k : Nat) (os : Array Obj) : Below w.heap.size w (Sort.grow (w.drewN k) os) :=
  ⟨rfl, rfl, rfl, by simp [Sort.grow, World.drewN], fun i hi => by simp [Sort.grow, World.drewN, Array.getElem?_append, hi]⟩
theorem strAdd (x y : ByteArray) (h : x.size + y.size ≤ 9223372036854775807) (W : World) : (Op.stringOp .add x y).run Tryz.prog W = .ok (.string (x ++ y)) W := by
  unfold Op.stringOp; simp only []; rw [if_neg (by simp [IntKind.max, IntKind.signed, IntKind.bits]; omega)]
  rfl
theorem itoa_any (x : Int) (w : World) (h : Good w x) : Calls Tryz.prog 115 #[.int .i64 x] w fun e w' => ∃ s, e = .returned (.string s) ∧ Aside0 (s = itoaS x ∧ s.size ≤ 21) ∧ Below w.heap.size w w' := by
  obtain ⟨h0, h⟩ := h; have hsz : (itoaS x).size ≤ 21 := by have := Lib.itoa_length_le x (by omega) (by omega); simpa [itoaS, ByteArray.size] using this
  rcases h with h | ⟨h, ht⟩
  · obtain ⟨n, rfl⟩ := Int.eq_ofNat_of_zero_le h0; refine (Any.strconv_Itoa_small { Tryz.itoaL with } n (by omega) w).mono ?_; rintro e w' ⟨rfl, rfl⟩; exact ⟨itoaS (n : Int), by simp [itoaS, Lib.itoa_nonneg], ⟨rfl, hsz⟩, Below.refl _ _⟩
  · refine (Any.strconv_Itoa Tryz.itoaL x (by omega) (by omega) w ht).mono ?_; rintro e w' ⟨rfl, k, os, rfl⟩; exact ⟨itoaS x, rfl, ⟨rfl, hsz⟩, below_growK k os⟩
def rowF (s : ByteArray) (ns : List Int) : ByteArray := ns.foldl (fun s n => s ++ (⟨#[32]⟩ ++ itoaS n)) s
theorem rowF_take {s : ByteArray} {ns : List Int} {j : Nat} (h : j < ns.length) : rowF s (ns.take (j + 1)) = rowF s (ns.take j) ++ (⟨#[32]⟩ ++ itoaS (rd ns (j : Int))) := by
  unfold rowF; rw [List.take_add_one, List.getElem?_eq_getElem h]; rw [List.foldl_append]; simp [rd, List.getD, List.getElem?_eq_getElem h]
theorem rd_mem {ns : List Int} {j : Nat} (h : j < ns.length) : rd ns (j : Int) ∈ ns := by
  simp [rd, List.getD, List.getElem?_eq_getElem h]
theorem byte_at (s : ByteArray) (kk : Nat) (h : kk < s.size) : wrap64 ((s[kk].toNat : Int)) = bt s (kk : Int) := by
  have h1 := bt_range s (kk : Int); have h2 : ((s[kk].toNat : Int)) = bt s (kk : Int) := bt_at s (kk : Int) (by simpa using h); rw [h2]; exact IntWalk.wrap64_in _ (by omega)
def wSpeeds : ByteArray := ⟨#[115, 112, 101, 101, 100, 115]⟩
def wStretch : ByteArray := ⟨#[115, 116, 114, 101, 116, 99, 104]⟩
def partN (s : S66) : List Int := [s.f0, s.f1, s.f2, s.f3.f0, s.f3.f1]
def rowsF (sp : List Int) (st : List S66) : List ByteArray := rowF wSpeeds sp :: st.map fun s => rowF wStretch (partN s)
def iter {α : Type} : Nat → (Nat → α → α) → α → α
  | 0, _, a => a
  | n + 1, f, a => f n (iter n f a)
def chkS (s : ByteArray) (i : Nat) (k : Nat) (c : Int) : Int := c + bt s k * ((k : Int) + 1) * ((i : Int) + 1)
def chkF (s : ByteArray) (i : Nat) (c : Int) : Int := iter s.size (chkS s i) c
theorem chk_step (s : ByteArray) (i k : Nat) (c : Int) (hk : k < 8811) (hi : i ≤ 400) (hc0 : 0 ≤ c) (hc1 : c ≤ 4000000000000000) : wrap64 (c + wrap64 (wrap64 (bt s k * ((k : Int) + 1)) * ((i : Int) + 1))) = chkS s i k c ∧ 0 ≤ chkS s i k c ∧ chkS s i k c ≤ c + 901000000 := by
  have hb := bt_range s (k : Int); have h1 : bt s k * ((k : Int) + 1) ≤ 255 * 8811 := Int.mul_le_mul hb.2 (by omega) (by omega) (by omega); have h0 : 0 ≤ bt s k * ((k : Int) + 1) := Int.mul_nonneg hb.1 (by omega); have h2 : bt s k * ((k : Int) + 1) * ((i : Int) + 1) ≤ 255 * 8811 * 401 := Int.mul_le_mul h1 (by omega) (by omega) (by omega); have h3 : 0 ≤ bt s k * ((k : Int) + 1) * ((i : Int) + 1) := Int.mul_nonneg h0 (by omega); unfold chkS; generalize bt s k * ((k : Int) + 1) = y at *; rw [IntWalk.wrap64_in y (by omega)]; generalize y * ((i : Int) + 1) = z at *; rw [IntWalk.wrap64_in z (by omega), IntWalk.wrap64_in _ (by omega)]
  omega
def sumF (rows : List ByteArray) (i : Nat) : Int := iter i (fun k c => chkF (rows.getD k ByteArray.empty) k c) 0
def wEnd : ByteArray := ⟨#[101, 110, 100, 32]⟩
def textM (sp : List Int) (st : List S66) : Int := sumF (rowsF sp st) (st.length + 1) % 139
def outF (rows : List ByteArray) (i : Nat) : ByteArray := iter i (fun k o => o ++ (rows.getD k ByteArray.empty ++ ⟨#[10]⟩)) ⟨#[]⟩
def textF (sp : List Int) (st : List S66) : ByteArray := outF (rowsF sp st) (st.length + 1) ++ wEnd ++ itoaS (textM sp st / 100) ++ itoaS (textM sp st / 10 % 10) ++ itoaS (textM sp st % 10) ++ ⟨#[10]⟩
theorem head_word_w (v : Value) (w : World) : Calls Tryz.prog 196 #[v] w fun e w' => ∃ wd, e = .returned (.string wd) ∧ Aside0 (wd = wSpeeds) ∧ w = w' :=
  (head_word_any v w).mono fun e w' ⟨h, hw⟩ => ⟨_, h, ⟨rfl⟩, hw⟩
theorem head_numbers_w (A : Option Addr) (c : Nat) (sp : List Int) (w : World) : Calls Tryz.prog 195 #[.slice A sp.length c] w fun e w' => ∃ A2 ns c2, e = .returned (.slice A2 (List.length ns) c2) ∧ Aside0 (ns = sp ∧ A2 = A) ∧ w = w' :=
  (head_numbers_any _ w).mono fun e w' ⟨h, hw⟩ => ⟨_, _, _, h, ⟨rfl, rfl⟩, hw⟩
theorem part_word_w (a b c d e0 : Int) (w : World) : Calls Tryz.prog 198 #[.agg #[.int .i64 a, .int .i64 b, .int .i64 c, .int .i64 d, .int .i64 e0]] w fun e w' => ∃ wd, e = .returned (.string wd) ∧ Aside0 (wd = wStretch) ∧ Below w.heap.size w w' :=
  (part_word_any a b c d e0 w).mono fun e w' ⟨h, hw⟩ => ⟨_, h, ⟨rfl⟩, hw⟩
theorem part_numbers_w (a b c d e0 : Int) (w : World) : Calls Tryz.prog 197 #[.agg #[.int .i64 a, .int .i64 b, .int .i64 c, .int .i64 d, .int .i64 e0]] w fun e w' => ∃ A2 ns c2, e = .returned (.slice A2 (List.length ns) c2) ∧ Aside0 (ns = [a, b, c, d, e0] ∧ Kd.C (Kd.int .i64) w' A2 ns.length ns) ∧ Below w.heap.size w w' :=
  (part_numbers_any a b c d e0 w).mono fun e w' ⟨v, h, hR, hw⟩ => by
    obtain ⟨A2, c2, rfl, _, hC⟩ := Kd.R_reads hR; exact ⟨A2, _, c2, h, ⟨rfl, hC⟩, hw⟩
set_option maxRecDepth 100000 in
set_option maxHeartbeats 1000000 in
theorem text_any (A0_0 A0_1 : Option Addr) (c0_0 c0_1 : Nat) (sp : List Int) (st : List S66) (w : World) (hr0_0 : Kd.C (Kd.int .i64) w A0_0 sp.length sp) (hc0_0 : sp.length ≤ c0_0) (hr0_1 : Kd.C k66 w A0_1 st.length st) (hc0_1 : st.length ≤ c0_1) (hsp : sp.length ≤ 400) (hst : st.length ≤ 400) (hgs : ∀ x ∈ sp, Good w x) (hgp : ∀ s ∈ st, ∀ x ∈ partN s, Good w x) :
    Calls Tryz.prog 80 #[.agg #[.slice A0_0 sp.length c0_0, .slice A0_1 st.length c0_1]] w fun e w' => e = .returned (.string (textF sp st)) ∧ Below w.heap.size w w' := by
  have hu1 := Tryz.underlying60; have hu2 := Tryz.underlying23; have hu3 := Tryz.underlying66; have hu4 := Tryz.underlying150; have HL := Aside0.mk (And.intro hsp hst); have HGS := Aside0.mk hgs; have HGP := Aside0.mk hgp; clear hgs hgp; have HR1 := Aside0.mk hr0_1; have HR0 := Aside0.mk hr0_0; clear hsp hst hr0_0 hr0_1
  go_enter Tryz.func80, Tryz.ntmps80
  go_upto_region 2 with (fail)
  generalize hW0 : World.alloc _ _ = W0
  have HT : Aside0 (TextW w A0_0 A0_1 c0_0 c0_1 sp.length st.length W0) := ⟨by
    rw [← hW0]
    exact ⟨((Below.refl _ w).alloc (Nat.le_refl _) _).alloc (by simp) _, by simp, by simp [go_sem], by simp [go_sem]⟩⟩
  have HO : Aside0 (Kd.R kRow 152 W0 (w.heap.size + 1) (fun _ => True) (.slice (some ⟨w.heap.size + 1, 0, none⟩) 1 1) [.head A0_0 sp.length c0_0]) := ⟨by
    rw [← hW0]; have := row_new (.head A0_0 sp.length c0_0) (w.alloc (.cells #[.slice A0_0 sp.length c0_0, .slice A0_1 st.length c0_1] 60)) (w.heap.size + 1) (by simp) 152
    simpa [encRow] using this⟩
  clear hW0; have g0 := HT.out.st; go_wp2
  go_loopg [3, 5, 21] st.length (fun kq v3 v5 v21 w' => ∃ j : Nat, v21 = .int .i64 (j : Int) ∧ Aside0 (j + kq = st.length) ∧ (∃ rs, Aside0 (rs = TRow.head A0_0 sp.length c0_0 :: (st.take j).map .part) ∧ Aside0 (Kd.R kRow 152 w' (w.heap.size + 1) (fun _ => True) v3 rs)) ∧ Aside0 (TextW w A0_0 A0_1 c0_0 c0_1 sp.length st.length w'))
  case atStart => exact ⟨0, rfl, ⟨by omega⟩, ⟨_, ⟨rfl⟩, HO⟩, HT⟩
  case round =>
    clear HT HO g0; obtain ⟨j, rfl, HJ, ⟨rs, HS, HO⟩, HT⟩ := hrel; have HLS : Aside0 (rs.length = j + 1) := ⟨by rw [HS.out]; simp; have := HJ.out; omega⟩; obtain ⟨Ao, co, eo⟩ := Kd.R_slice HO.out; subst eo
    cases gk with
    | zero =>
      have c3 : decide ((j : Int) < (st.length : Int)) = false := decide_eq_false (by have := HJ.out; omega); have c4 : ¬ (j < st.length) := by have := HJ.out; omega
      have hrs : rs = TRow.head A0_0 sp.length c0_0 :: st.map .part := by rw [HS.out, List.take_of_length_le (by have := HJ.out; omega)]
      clear HS HJ; obtain ⟨A1, c1, e1, hlc, hC1⟩ := Kd.R_reads HO.out; injection e1 with e1 e2 e3; subst e1 e3; have HC := Aside0.mk hC1; have HRS := Aside0.mk hrs; clear hC1 hrs HO; go_wp2; clear c3 c4
      go_loopg [6, 7, 34] rs.length (fun kq v6 v7 v34 w' => ∃ (i : Nat) (out : ByteArray) (chk : Int), v6 = .string out ∧ v7 = .int .i64 chk ∧ v34 = .int .i64 (i : Int) ∧ Aside0 (i + kq = rs.length) ∧ Aside0 (out = outF (rowsF sp st) i ∧ chk = sumF (rowsF sp st) i ∧ out.size ≤ 100000000 * i ∧ 0 ≤ chk ∧ chk ≤ i * 7940000000000) ∧ Aside0 (Below wr.heap.size wr w'))
      case atStart => exact ⟨0, _, 0, rfl, rfl, rfl, ⟨by omega⟩, ⟨rfl, rfl, Nat.le_refl _, by omega, by omega⟩, ⟨Below.refl _ _⟩⟩
      case round =>
        obtain ⟨i, out, chk, rfl, rfl, rfl, HI, HO, HW⟩ := hrel
        cases gk with
        | zero =>
          have c3 : decide ((i : Int) < (rs.length : Int)) = false := decide_eq_false (by have := HI.out; omega); have c4 : ¬ (i < rs.length) := by have := HI.out; omega
          have hrl : rs.length = st.length + 1 := by rw [HRS.out]; simp
          have HIE : Aside0 (i = st.length + 1) := ⟨by have := HI.out; omega⟩; have hc0 : 0 ≤ chk := HO.out.2.2.2.1; have hos : out.size ≤ 100000000 * 1000001 := by have := HO.out.2.2.1; have := HIE.out; have := HL.out.2; omega
          have HOS := Aside0.mk hos; have HC0 := Aside0.mk hc0; have he : (⟨#[101, 110, 100, 32]⟩ : ByteArray).size = 4 := rfl; have ha0 := fun W => strAdd out ⟨#[101, 110, 100, 32]⟩ (by rw [he]; omega) W; have hoe : (out ++ ⟨#[101, 110, 100, 32]⟩).size ≤ 100000000 * 1000002 := by rw [ByteArray.size_append, he]; omega
          have HOE := Aside0.mk hoe; clear hrl hos he hoe
          go_wp2_with (fail)
          clear ha0; refine (itoa_any _ _ ⟨by omega, Or.inl (by omega)⟩).mono ?_; rintro e w1 ⟨s1, rfl, H1, hb1⟩; generalize hx1 : out ++ ⟨#[101, 110, 100, 32]⟩ = o1 at HOE; have HX1 := Aside0.mk hx1; have ha1 := fun W => strAdd o1 s1 (by have := HOE.out; have := H1.out.2; omega) W; clear hx1
          go_wp2_with (fail)
          clear ha1; refine (itoa_any _ _ ⟨by omega, Or.inl (by omega)⟩).mono ?_; rintro e w2 ⟨s2, rfl, H2, hb2⟩; have ha2 := fun W => strAdd (o1 ++ s1) s2 (by rw [ByteArray.size_append]; have := HOE.out; have := H1.out.2; have := H2.out.2; omega) W
          go_wp2_with (fail)
          clear ha2; refine (itoa_any _ _ ⟨by omega, Or.inl (by omega)⟩).mono ?_; rintro e w3 ⟨s3, rfl, H3, hb3⟩; have hn1 : (⟨#[10]⟩ : ByteArray).size = 1 := rfl; have ha3 := fun W => strAdd (o1 ++ s1 ++ s2) s3 (by rw [ByteArray.size_append, ByteArray.size_append]; have := HOE.out; have := H1.out.2; have := H2.out.2; have := H3.out.2; omega) W; have ha4 := fun W => strAdd (o1 ++ s1 ++ s2 ++ s3) ⟨#[10]⟩ (by rw [ByteArray.size_append, ByteArray.size_append, ByteArray.size_append, hn1]; have := HOE.out; have := H1.out.2; have := H2.out.2; have := H3.out.2; omega) W; clear hn1; go_wp2; clear ha3 ha4; go_ret; refine ⟨?_, below_step (below_step (below_step (below_step HT.out.hb HW.out) hb1) (below_step hb2 hb3)) (Below.refl _ _)⟩; have hm : textM sp st = chk % 139 := by unfold textM; rw [HO.out.2.1, HIE.out]
          have ho1 : o1 = outF (rowsF sp st) (st.length + 1) ++ wEnd := by rw [← HX1.out, HO.out.1, HIE.out]; rfl
          rw [H1.out.1, H2.out.1, H3.out.1, ho1, ← hm]
          rfl
        | succ k2 =>
          have c3 : decide ((i : Int) < (rs.length : Int)) = true := decide_eq_true (by have := HI.out; omega); have p1 : (0 : Int) ≤ (i : Int) := by omega
          have p2 : (i : Int) < (rs.length : Int) := by have := HI.out; omega
          obtain ⟨ad, cc, ea, _, hk, hcell⟩ := Kd.C_get HC.out (.head none 0 0) i p1 p2
          cases ea
          generalize hxn : rs.getD (i : Int).toNat (TRow.head none 0 0) = x at hk; obtain rfl : cc = [encRow x] := hk; have x0 := hcell 0 (encRow x) rfl; rw [Int.toNat_natCast] at x0; clear hcell; rw [show i * kRow.sz + 0 = i from Nat.mul_one i] at x0; have q1 := eq_true p1; have q2 := eq_true p2; rw [HRS.out, Int.toNat_natCast] at hxn; have hil : i < st.length + 1 := by have := HI.out; rw [HRS.out] at this; simp at this; omega
          cases x with
          | head A n c => ?_
          | part s => ?_
          case' head =>
            replace x0 : wr.cell? (ad.add i) = some (Value.iface 147 (.slice A n c)) := (HW.out.cell (World.block_lt_of_cell? _ _ x0)).trans x0; obtain ⟨hi0, rfl, rfl, rfl⟩ := rows_head hxn hil; have hrow : (rowsF sp st)[i]? = some (rowF wSpeeds sp) := by rw [hi0]; rfl
            have HROW := Aside0.mk hrow; have HIL := Aside0.mk hil; clear hi0 hrow hxn hil
            go_wp2_with (first | (go_at_call 196; refine (head_word_w _ _).mono ?_; rintro e w1 ⟨wd, rfl, Hwd, rfl⟩) | (go_at_call 195; refine (head_numbers_w _ _ _ _).mono ?_; rintro e w1 ⟨A2, ns, c2, rfl, Hns, rfl⟩))
            have HG : Aside0 (∀ x ∈ ns, Good wr x) := ⟨fun x hx => (HGS.out x (Hns.out.1 ▸ hx)).below (below_step HT.out.hb HW.out)⟩; have HN : Aside0 (Kd.C (Kd.int .i64) wr A2 ns.length ns) := ⟨by rw [Hns.out.1, Hns.out.2]; exact Kd.C_below HR0.out (below_step HT.out.hb HW.out)⟩; have HRO : Aside0 ((rowsF sp st)[i]? = some (rowF wd ns) ∧ ns.length ≤ 400 ∧ wd.size ≤ 10) := ⟨by rw [Hns.out.1, Hwd.out]; exact HROW.out, by rw [Hns.out.1]; exact HL.out.1, by rw [Hwd.out]; decide⟩; clear Hns Hwd HROW x0; replace HW := HW; obtain ⟨wX, rfl⟩ : ∃ wX, wX = wr := ⟨_, rfl⟩
          case' part =>
            replace x0 : wr.cell? (ad.add i) = some (Value.iface 150 (.agg #[.int .i64 s.f0, .int .i64 s.f1, .int .i64 s.f2, .int .i64 s.f3.f0, .int .i64 s.f3.f1])) := (HW.out.cell (World.block_lt_of_cell? _ _ x0)).trans x0; obtain ⟨ki, hi0, hks⟩ := rows_part hxn hil; have hrow : (rowsF sp st)[i]? = some (rowF wStretch (partN s)) := by rw [hi0]; simp [rowsF, hks]
            have hsm : s ∈ st := List.mem_of_getElem? hks; have HROW := Aside0.mk (And.intro hrow hsm); have HIL := Aside0.mk hil; clear hi0 hrow hxn hil hks hsm
            go_wp2_with (first | (go_at_call 198; refine (part_word_w _ _ _ _ _ _).mono ?_; rintro e w1 ⟨wd, rfl, Hwd, hb1⟩) | (go_at_call 197; refine (part_numbers_w _ _ _ _ _ _).mono ?_; rintro e w2 ⟨A2, ns, c2, rfl, Hns, hb2⟩))
            replace HW := Aside0.mk (below_step HW.out (below_step hb1 hb2)); have HG : Aside0 (∀ x ∈ ns, Good w2 x) := ⟨fun x hx => (HGP.out s HROW.out.2 x (by have := Hns.out.1; rw [this] at hx; exact hx)).below (below_step HT.out.hb HW.out)⟩; have HN : Aside0 (Kd.C (Kd.int .i64) w2 A2 ns.length ns) := ⟨Hns.out.2⟩; have HRO : Aside0 ((rowsF sp st)[i]? = some (rowF wd ns) ∧ ns.length ≤ 400 ∧ wd.size ≤ 10) := ⟨by rw [Hns.out.1, Hwd.out]; exact HROW.out.1, by rw [Hns.out.1]; simp, by rw [Hwd.out]; decide⟩; clear Hns Hwd HROW x0 hb1 hb2; obtain ⟨wX, rfl⟩ : ∃ wX, wX = w2 := ⟨_, rfl⟩
          all_goals
            clear c3 p1 p2 q1 q2
            go_loopg [10, 44] ns.length (fun kq v10 v44 w' => ∃ (jn : Nat) (s : ByteArray), v10 = .string s ∧ v44 = .int .i64 (jn : Int) ∧ Aside0 (jn + kq = ns.length) ∧ Aside0 (s = rowF wd (ns.take jn) ∧ s.size ≤ 10 + 22 * jn) ∧ Aside0 (Below wX.heap.size wX w'))
            case atStart => exact ⟨0, _, rfl, rfl, ⟨by omega⟩, ⟨rfl, by have := HRO.out.2.2; omega⟩, ⟨Below.refl _ _⟩⟩
            case round =>
              obtain ⟨jn, s, rfl, rfl, HJN, HS, HWN⟩ := hrel
              cases gk with
              | zero =>
                have c3 : decide ((jn : Int) < (ns.length : Int)) = false := decide_eq_false (by have := HJN.out; omega); have c4 : ¬ (jn < ns.length) := by have := HJN.out; omega
                have HSW : Aside0 (s = rowF wd ns ∧ s.size ≤ 8810) := ⟨by rw [HS.out.1, List.take_of_length_le (by have := HJN.out; omega)], by have := HS.out.2; have := HJN.out; have := HRO.out.2.1; omega⟩; have hsz : s.size ≤ 8810 := HSW.out.2; have HSZ0 : Aside0 (s.size ≤ 8810) := ⟨by have := HS.out.2; have := HJN.out; have := HRO.out.2.1; omega⟩; clear HS; go_wp2; clear c3 c4; obtain ⟨wY, rfl⟩ : ∃ wY, wY = wr := ⟨_, rfl⟩
                go_loopg [7, 56] s.size (fun kq v7 v56 w' => ∃ (kk : Nat) (c : Int), v7 = .int .i64 c ∧ v56 = .int .i64 (kk : Int) ∧ Aside0 (kk + kq = s.size) ∧ Aside0 (c = iter kk (chkS s i) chk ∧ 0 ≤ c ∧ c ≤ chk + kk * 901000000) ∧ w' = wY)
                case atStart => exact ⟨0, _, rfl, rfl, ⟨by omega⟩, ⟨rfl, by have := HO.out.2.2.2; omega, by omega⟩, rfl⟩
                case round =>
                  obtain ⟨kk, c, rfl, rfl, HKK, HCC, rfl⟩ := hrel
                  cases gk with
                  | zero =>
                    have c3 : decide ((kk : Int) < (s.size : Int)) = false := decide_eq_false (by have := HKK.out; omega); have c4 : ¬ (kk < s.size) := by have := HKK.out; omega
                    have hns : (⟨#[10]⟩ : ByteArray).size = 1 := rfl; have hos : out.size ≤ 100000000 * 1000001 := by have := HO.out.2.2.1; have := HIL.out; have := HL.out.2; omega
                    have ha3 := fun W => strAdd s ⟨#[10]⟩ (by rw [hns]; omega) W; have ha4 := fun W => strAdd out (s ++ ⟨#[10]⟩) (by rw [ByteArray.size_append, hns]; omega) W; have HGD : Aside0 ((rowsF sp st).getD i ByteArray.empty = s) := ⟨by rw [List.getD_eq_getElem?_getD, HRO.out.1, HSW.out.1]; rfl⟩; have HSZ : Aside0 (s.size ≤ 8810) := HSZ0; clear hns hos; go_wp2; clear ha3 ha4
                    go_roundg k2
                    case measure => omega
                    case rel => exact ⟨i + 1, _, _, rfl, rfl, (by rw [IntWalk.wrap64_in _ (by have := HIL.out; have := HL.out.2; omega), Int.natCast_add, Int.natCast_one]), ⟨by have := HI.out; omega⟩, ⟨by rw [HO.out.1]; show _ = outF (rowsF sp st) i ++ ((rowsF sp st).getD i ByteArray.empty ++ ⟨#[10]⟩); rw [HGD.out], by rw [HCC.out.1, HO.out.2.1, show kk = s.size by have := HKK.out; omega]; show _ = chkF ((rowsF sp st).getD i ByteArray.empty) i (sumF (rowsF sp st) i); rw [HGD.out]; rfl, by rw [ByteArray.size_append, ByteArray.size_append]; have := HO.out.2.2.1; have := HSZ.out; have : (⟨#[10]⟩ : ByteArray).size = 1 := rfl; omega, by have := HCC.out.2.1; omega, by have := HCC.out.2.2; have := HO.out.2.2.2; have := HSZ.out; have := HKK.out; omega⟩, ⟨below_step HW.out HWN.out⟩⟩
                  | succ k4 =>
                    have c3 : decide ((kk : Int) < (s.size : Int)) = true := decide_eq_true (by have := HKK.out; omega); have c4 : kk < s.size := by have := HKK.out; omega
                    have b1 := bt_at s kk; have hi1 : (i : Int) ≤ 401 := by have := HIL.out; have := HL.out.2; omega
                    go_wp2
                    go_roundg k4
                    case measure => omega
                    case rel => exact ⟨kk + 1, _, rfl, (by rw [Int.natCast_add, Int.natCast_one]), ⟨by have := HKK.out; omega⟩, ⟨by rw [byte_at s kk c4, (chk_step s i kk c (by omega) (by have := HIL.out; have := HL.out.2; omega) HCC.out.2.1 (by have := HCC.out.2.2; have := HO.out.2.2.2; have := HIL.out; have := HL.out.2; omega)).1, HCC.out.1]; rfl, by rw [byte_at s kk c4, (chk_step s i kk c (by omega) (by have := HIL.out; have := HL.out.2; omega) HCC.out.2.1 (by have := HCC.out.2.2; have := HO.out.2.2.2; have := HIL.out; have := HL.out.2; omega)).1]; have := chk_step s i kk c (by omega) (by have := HIL.out; have := HL.out.2; omega) HCC.out.2.1 (by have := HCC.out.2.2; have := HO.out.2.2.2; have := HIL.out; have := HL.out.2; omega); have := HCC.out.2; omega⟩, rfl⟩
              | succ k3 =>
                have c3 : decide ((jn : Int) < (ns.length : Int)) = true := decide_eq_true (by have := HJN.out; omega); have p1 : (0 : Int) ≤ (jn : Int) := by omega
                have p2 : (jn : Int) < (ns.length : Int) := by have := HJN.out; omega
                obtain ⟨ad2, ea, x0⟩ := Kd.at_int HN.out jn p1 p2
                cases ea
                rw [Int.toNat_natCast] at x0; replace x0 := (HWN.out.cell (World.block_lt_of_cell? _ _ x0)).trans x0; have HGx : Aside0 (Good wr (rd ns jn)) := ⟨(HG.out _ (rd_mem (by omega))).below HWN.out⟩; generalize hxx : rd ns jn = xx at x0 HGx; have HXX := Aside0.mk hxx; clear hxx; have q1 := eq_true p1; have q2 := eq_true p2
                go_wp2_with (go_at_call 115; refine (itoa_any _ _ HGx.out).mono ?_; rintro e w1 ⟨si, rfl, Hsi, hbi⟩; have ha1 := fun W => strAdd ⟨#[32]⟩ si (by have := Hsi.out.2; have : (⟨#[32]⟩ : ByteArray).size = 1 := rfl; omega) W; have ha2 := fun W => strAdd s (⟨#[32]⟩ ++ si) (by rw [ByteArray.size_append]; have := Hsi.out.2; have := HS.out.2; have := HRO.out.2.1; have := HJN.out; have : (⟨#[32]⟩ : ByteArray).size = 1 := rfl; omega) W)
                clear ha1 ha2
                go_roundg k3
                case measure => omega
                case rel => exact ⟨jn + 1, _, rfl, (by rw [IntWalk.wrap64_in _ (by have := HRO.out.2.1; have := HJN.out; omega), Int.natCast_add, Int.natCast_one]), ⟨by have := HJN.out; omega⟩, ⟨by rw [rowF_take (by omega), HXX.out, ← HS.out.1, ← Hsi.out.1], by rw [ByteArray.size_append, ByteArray.size_append]; have := Hsi.out.2; have := HS.out.2; have : (⟨#[32]⟩ : ByteArray).size = 1 := rfl; omega⟩, ⟨below_step HWN.out hbi⟩⟩
    | succ k2 =>
      have c3 : decide ((j : Int) < (st.length : Int)) = true := decide_eq_true (by have := HJ.out; omega); have hj : j < st.length := by have := HJ.out; omega
      have p1 : (0 : Int) ≤ (j : Int) := by omega
      have p2 : (j : Int) < (st.length : Int) := by omega
      obtain ⟨ad, ea, x0, x1, x2, x3, x4⟩ := at_T66 HR1.out j p1 p2
      cases ea
      generalize hxn : rd_T66 st j = x at x0 x1 x2 x3 x4; rw [Int.toNat_natCast] at x0 x1 x2 x3 x4; replace x0 := (HT.out.hb.cell (World.block_lt_of_cell? w _ x0)).trans x0; replace x1 := (HT.out.hb.cell (World.block_lt_of_cell? w _ x1)).trans x1; replace x2 := (HT.out.hb.cell (World.block_lt_of_cell? w _ x2)).trans x2; replace x3 := (HT.out.hb.cell (World.block_lt_of_cell? w _ x3)).trans x3; replace x4 := (HT.out.hb.cell (World.block_lt_of_cell? w _ x4)).trans x4; have q1 := eq_true p1; have q2 := eq_true p2; have hls := HLS.out; have hj6 := HL.out; clear hls hj6
      go_wp2_with (first | ((with_reducible refine gate_builtin (b := .append) (xs := #[.tmp 25, .tmp 29]) rfl ?_); (try (refine gate_guard (by rfl) ?_; dsimp only)); at_builtin; (refine Kd.R_append kRow (w0 := wr) (w.heap.size + 1) rfl (.tmp 25) (.tmp 29) 148 152 .nilIface 16 rfl Tryz.underlying148 infoRow rfl (by decide) (by omega) (.slice Ao rs.length co) rs (.part x) [encRow (.part x)] (fun _ => True) (fun _ => False) rfl (by rw [World.size_alloc]; rfl) ?aP (fun _ hk => hk.elim) ?aF ?aO ?aB ?aS ?aL ?_); (case aP => exact rfl); (case aB => exact (Below.refl _ _).alloc HT.out.lt _); (case aF => exact (fun _ _ => trivial)); (case aO => exact Kd.R_alloc HO.out _); (case aS => have := HT.out.lt; rw [World.size_alloc]; omega); (case aL => have := HLS.out; have := HL.out; omega); intro vA wA ho hb hg hat; have HTB := HT.out.below hb; clear hb hg hat HT))
      go_roundg k2
      case measure => omega
      case rel => exact ⟨j + 1, (by rw [IntWalk.wrap64_in _ (by have := HL.out; omega), Int.natCast_add, Int.natCast_one]), ⟨by have := HJ.out; omega⟩, ⟨rs ++ [.part x], ⟨by rw [HS.out, List.take_add_one, List.getElem?_eq_getElem hj, List.map_append, show x = st[j] from by rw [← hxn]; simp [rd_T66, List.getD, List.getElem?_eq_getElem hj]]; rfl⟩, ⟨ho⟩⟩, ⟨HTB⟩⟩
end Go.Proofs.YtdmdahafiiggiabGreatDoor.K
end
section
namespace Go.Proofs.YtdmdahafiiggiabGreatDoor.K
open Go.RowKit Go.Proofs.YtdmdahafiiggiabGreatDoorW.PrintWords Go.Proofs.YtdmdahafiiggiabGreatDoorW.PrintLast Go.Proofs.YtdmdahafiiggiabGreatDoorW.PrintMore
theorem infoStr : (Tryz.prog.info? 9).map (fun i => (i.zero, i.size, i.bytes)) = some (some (.string ByteArray.empty), 1, 16) := by kernel_rfl
def partsF (s : ByteArray) (c : UInt8) : List ByteArray := Lib.splitB ⟨#[c]⟩ 0 (Lib.countB s ⟨#[c]⟩) s
theorem gensplit_one (s : ByteArray) (c : UInt8) (w : World) (hs : s.size < 4294967281) :
    Calls Tryz.prog 133 #[.string s, .string ⟨#[c]⟩, .int .i64 0, .int .i64 (-1)] w fun e w' => e = .returned (.slice (some ⟨w.heap.size, 0, none⟩) (partsF s c).length (partsF s c).length) ∧ w' = w.alloc (.cells ((partsF s c).map Value.string).toArray 9) := by
  have hle := Lib.countB_le ⟨#[c]⟩ (Nat.le_refl 1) s.size s (Nat.le_refl _); have hlen := Lib.splitB_all ⟨#[c]⟩ (Nat.le_refl 1) 0 _ s rfl
  have h := Any.strings_genSplit_core { Tryz.splitL with } infoStr s ⟨#[c]⟩ 0 (-1) (Lib.countB s ⟨#[c]⟩ + 1) w hs (Nat.le_refl 1) (Nat.zero_le _)
    (fun x cs hx => (Any.strings_Index_one { Tryz.splitL with } x c _).mono fun e w' ⟨he, hw⟩ => ⟨by rw [he]; unfold Lib.indexB; rw [Lib.index_one], hw⟩)
    (Any.strings_Count_one { Tryz.splitL with } s c w |>.mono fun e w' ⟨he, hw⟩ => ⟨by rw [he]; show _ = Ending.returned (Value.int .i64 ((Lib.count s.data.toList [c] : Nat) : Int)); rw [Lib.count_one]; rfl, hw⟩)
    (by decide) (by decide) (by rw [if_pos (by decide)]; omega)
  rw [Nat.add_sub_cancel, hlen] at h; have e2 : Lib.cellsOf (Lib.splitB ⟨#[c]⟩ 0 (Lib.countB s ⟨#[c]⟩) s) (Lib.countB s ⟨#[c]⟩ + 1) = ((Lib.splitB ⟨#[c]⟩ 0 (Lib.countB s ⟨#[c]⟩) s).map Value.string).toArray := by rw [← hlen]; exact Lib.cellsOf_full _
  rw [e2, ← hlen] at h; exact h
theorem split_one (s : ByteArray) (c : UInt8) (w : World) (hs : s.size < 4294967281) :
    Calls Tryz.prog 117 #[.string s, .string ⟨#[c]⟩] w fun e w' => ∃ A cc, e = .returned (.slice A (partsF s c).length cc) ∧ Aside0 (Kd.C Kd.string w' A (partsF s c).length (partsF s c) ∧ (partsF s c).length ≤ cc) ∧ Below w.heap.size w w' := by
  have h := gensplit_one s c w hs
  have hl : (partsF s c).length ≤ 9223372036854775807 := by
    have := Lib.splitB_all ⟨#[c]⟩ (Nat.le_refl 1) 0 _ s rfl; have hle := Lib.countB_le ⟨#[c]⟩ (Nat.le_refl 1) s.size s (Nat.le_refl _); unfold partsF
    omega
  go_enter Tryz.func117, Tryz.ntmps117
  go_wp2_with (go_at_call 133; refine h.mono ?_; rintro e w' ⟨rfl, rfl⟩)
  go_ret; refine ⟨_, _, rfl, ⟨?_, Nat.le_refl _⟩, (Below.refl _ _).alloc (Nat.le_refl _) _⟩; have := own_lit_of (enc := Value.string) w w.heap.size 9 (partsF s c) (Nat.le_refl _) hl; obtain ⟨A, cc, e, hr⟩ := own_reads_of (d := ByteArray.empty) this
  cases e
  exact Kd.C_of_reads hr
theorem sure_yes (why : ByteArray) (w : World) : Calls Tryz.prog 118 #[.bool true, .string why] w fun e w' => e = .returned (.tuple #[]) ∧ w = w' := by
  go_enter Tryz.func118, Tryz.ntmps118
  go_wp2
  go_end0
  exact ⟨rfl, rfl⟩
def gaveUp (e : Ending) : Prop := ∃ why : ByteArray, e = .panicked [{ v := .iface 157 (.agg #[.string why]), recovered := false }]
theorem sure_no (why : ByteArray) (w : World) : Calls Tryz.prog 118 #[.bool false, .string why] w fun e w' => e = .panicked [{ v := .iface 157 (.agg #[.string why]), recovered := false }] ∧ w = w' := by
  go_enter Tryz.func118, Tryz.ntmps118
  go_wp2; exact ⟨rfl, rfl, rfl⟩
def isDigB (b : Int) : Bool := decide (48 ≤ b) && decide (b ≤ 57)
def digsF (x : ByteArray) (k : Nat) : Bool := (List.range k).all fun j => isDigB (bt x j)
def valF (x : ByteArray) (k : Nat) : Int := iter k (fun j n => 10 * n + (bt x j - 48)) 0
theorem digs_succ {x : ByteArray} {k : Nat} : digsF x (k + 1) = (digsF x k && isDigB (bt x k)) := by
  simp [digsF, List.range_succ]
theorem val_range {x : ByteArray} : ∀ {k : Nat}, digsF x k = true → 0 ≤ valF x k ∧ valF x k < 10 ^ k
  | 0, _ => by simp [valF, iter]
  | k + 1, h => by
    rw [digs_succ, Bool.and_eq_true] at h; have ih := val_range h.1; have hd := h.2; simp only [isDigB, Bool.and_eq_true, decide_eq_true_eq] at hd; have : valF x (k + 1) = 10 * valF x k + (bt x k - 48) := rfl; rw [this, Int.pow_succ]
    omega
theorem val_small {x : ByteArray} {k : Nat} (h : digsF x k = true) (hk : k ≤ 4) : 0 ≤ valF x k ∧ valF x k ≤ 9999 ∧ (k ≤ 3 → valF x k ≤ 999) := by
  have := val_range h; have h4 : k = 0 ∨ k = 1 ∨ k = 2 ∨ k = 3 ∨ k = 4 := by omega
  rcases h4 with rfl | rfl | rfl | rfl | rfl <;> simp at this <;> omega
def numOk (x : ByteArray) : Bool := digsF x x.size && decide (x.size ≤ 4) && decide (x.size ≠ 0) && decide (itoaS (valF x x.size) = x)
def numF (x : ByteArray) : Option Int := if numOk x = true then some (valF x x.size) else none
def numsF : List ByteArray → Option (List Int)
  | [] => some []
  | x :: l => (numF x).bind fun n => (numsF l).map fun ns => n :: ns
theorem nums_snoc (x : ByteArray) : ∀ (l : List ByteArray) (ns : List Int), numsF l = some ns → numsF (l ++ [x]) = (numF x).map fun n => ns ++ [n]
  | [], ns, h => by
    obtain rfl : [] = ns := Option.some.inj h
    cases hx : numF x <;> simp [numsF, hx]
  | y :: l, ns, h => by
    simp only [numsF, List.cons_append] at h ⊢; obtain ⟨n, hn, h⟩ := Option.bind_eq_some_iff.1 h; obtain ⟨ms, hm, rfl⟩ := Option.map_eq_some_iff.1 h; rw [hn, nums_snoc x l ms hm]
    cases hx : numF x <;> simp
theorem nums_bad {x : ByteArray} (hx : numF x = none) : ∀ {l : List ByteArray}, x ∈ l → numsF l = none
  | y :: l, h => by
    simp only [numsF]
    rcases List.mem_cons.1 h with rfl | h
    · rw [hx]; rfl
    · rw [nums_bad hx h]; cases numF y <;> rfl
theorem nums_len : ∀ {l : List ByteArray} {ns : List Int}, numsF l = some ns → ns.length = l.length
  | [], ns, h => by obtain rfl : [] = ns := Option.some.inj h; rfl
  | y :: l, ns, h => by
    simp only [numsF] at h; obtain ⟨n, hn, h⟩ := Option.bind_eq_some_iff.1 h; obtain ⟨ms, hm, rfl⟩ := Option.map_eq_some_iff.1 h; simp [nums_len hm]
def toldF (line word : ByteArray) : Option (List Int) := if rdOf ByteArray.empty (partsF line 32) 0 = word then numsF ((partsF line 32).drop 1) else none
def ToldPost (line word : ByteArray) (w : World) (e : Ending) (w' : World) : Prop :=
  Below w.heap.size w w' ∧ ((toldF line word = none ∧ gaveUp e) ∨ ∃ ns v, toldF line word = some ns ∧ e = .returned v ∧ Kd.R (Kd.int .i64) 3 w' w.heap.size (fun _ => True) v ns)
theorem parts_pos (s : ByteArray) (c : UInt8) : 0 < (partsF s c).length := by
  unfold partsF
  cases Lib.countB s ⟨#[c]⟩ with
  | zero => simp [Lib.splitB]
  | succ k => unfold Lib.splitB; split <;> simp
theorem num_bad_digit {x : ByteArray} {pos : Nat} (h : pos < x.size) (hd : isDigB (bt x pos) = false) : numF x = none := by
  have : digsF x x.size = false := by
    rw [Bool.eq_false_iff]; intro hf; simp only [digsF, List.all_eq_true, List.mem_range] at hf; rw [hf pos h] at hd
    cases hd
  simp [numF, numOk, this]
theorem num_bad_size {x : ByteArray} (h : 4 < x.size) : numF x = none := by
  have : decide (x.size ≤ 4) = false := decide_eq_false (by omega); simp only [numF, numOk, this]; simp
theorem num_bad_empty {x : ByteArray} (h : x.size = 0) : numF x = none := by
  simp [numF, numOk, h]
theorem num_bad_itoa {x : ByteArray} (h : ¬ itoaS (valF x x.size) = x) : numF x = none := by
  simp [numF, numOk, h]
theorem num_good {x : ByteArray} {pos : Nat} (h1 : digsF x pos = true) (hp : pos = x.size) (h2 : x.size ≤ 4) (h3 : ¬ x.size = 0) (h4 : itoaS (valF x pos) = x) : numF x = some (valF x pos) := by
  subst hp; simp [numF, numOk, h1, h2, h3, h4]
theorem below_iter {w w1 : World} (h : Below w.heap.size w w1) (x : ByteArray) (p : Nat) : Below w.heap.size w (w1.iter x p) := h.alloc h.size _
theorem str_ne {a b : ByteArray} (h : ¬ a = b) : (a.toList == b.toList) = false := by
  rw [beq_eq_false_iff_ne]; intro e; rw [Lib.toList_data, Lib.toList_data] at e; apply h
  cases a; cases b
  simp at e; rw [e]
theorem parts_len (s : ByteArray) (c : UInt8) (hs : s.size ≤ 100000) : (partsF s c).length ≤ 100001 := by
  have := Lib.splitB_all ⟨#[c]⟩ (Nat.le_refl 1) 0 _ s rfl; have hle := Lib.countB_le ⟨#[c]⟩ (Nat.le_refl 1) s.size s (Nat.le_refl _); unfold partsF
  omega
set_option maxRecDepth 100000 in
set_option maxHeartbeats 1000000 in
theorem told_any (line word : ByteArray) (w : World) (hs : line.size ≤ 100000) (hq : TabW w ∨ ∀ x ∈ partsF line 32, valF x x.size < 100) :
    Calls Tryz.prog 119 #[.string line, .string word] w (ToldPost line word w) := by
  obtain ⟨ps, hps⟩ : ∃ ps, partsF line 32 = ps := ⟨_, rfl⟩; have hp0 : 0 < ps.length := hps ▸ parts_pos line 32; have CS := Aside0.mk (split_one line 32 w (by omega)); rw [hps] at CS; obtain ⟨i9, hi9, hz0, hz1, hz2⟩ := info_parts infoStr; have HP := Aside0.mk hps; rw [hps] at hq; have HQ := Aside0.mk hq; have HP0 := Aside0.mk hp0; clear hps hq hp0
  go_enter Tryz.func119, Tryz.ntmps119
  go_wp2_with fail
  refine CS.out.mono ?_; rintro e w1 ⟨A, cc, rfl, HC, hb1⟩; obtain ⟨ad, ea, x0⟩ := Kd.at_string HC.out.1 0 (by omega) (by have := HP0.out; omega)
  cases ea
  have hlen : (0 : Int) < (ps.length : Int) := by have := HP0.out; omega
  have hlen' : (0 < ps.length) = True := eq_true HP0.out; obtain ⟨p0, hp0⟩ : ∃ p0, rdOf ByteArray.empty ps 0 = p0 := ⟨_, rfl⟩; rw [hp0] at x0; replace x0 : w1.cell? ad = some (.string p0) := x0; have HB1 := Aside0.mk hb1; have HPP := Aside0.mk hp0; clear hb1 hp0
  by_cases hw0 : p0 = word
  case neg =>
    have hne := str_ne hw0
    go_wp2_with (first | (go_at_call 118; (with_reducible refine (sure_yes _ _).mono ?_); rintro e w' ⟨rfl, rfl⟩) | (go_at_call 118; (with_reducible refine (sure_no _ _).mono ?_); rintro e w' ⟨rfl, rfl⟩))
    exact ⟨rfl, HB1.out, .inl ⟨by unfold toldF; rw [HP.out, if_neg (by rw [HPP.out]; exact hw0)], _, rfl⟩⟩
  case pos =>
    subst hw0; have hne : (p0.toList == p0.toList) = true := by simp
    have HTF : Aside0 (toldF line p0 = numsF (ps.drop 1)) := ⟨by unfold toldF; rw [HP.out, if_pos HPP.out]⟩; have HT : Aside0 (Kd.C Kd.string w1 (if cc = 1 then some ad else (some ad).map (·.add (1 * 1))) (ps.drop 1).length (ps.drop 1)) := ⟨Kd.C_drop HC.out.1 (by have := HP0.out; omega) HC.out.2⟩; generalize hA1 : (if cc = 1 then some ad else (some ad).map (·.add (1 * 1))) = A1 at HT
    have hcut : ∀ W : World, (Instr.slice 117 (.slice (some ad) ps.length cc) (some (.int .i64 1)) none none).run Tryz.prog W = .ok (.slice A1 (ps.drop 1).length (cc - 1)) W := fun W => by
      have := cut_from (P := Tryz.prog) 117 9 .i64 Tryz.underlying117 hi9 1 hz1 (some ad) ps.length cc 1 (by omega) (by have := HP0.out; omega) W; rw [this, ← hA1, List.length_drop]
      rfl
    have HLT : Aside0 (ps.length ≤ 100001) := ⟨by rw [← HP.out]; exact parts_len line 32 hs⟩; obtain ⟨tl, htl⟩ : ∃ tl, ps.drop 1 = tl := ⟨_, rfl⟩; rw [htl] at HT HTF hcut; have HL2 : Aside0 (tl.length ≤ 100000) := ⟨by rw [← htl, List.length_drop]; have := HLT.out; omega⟩; have HQ2 : Aside0 (TabW w ∨ ∀ x ∈ tl, valF x x.size < 100) := ⟨HQ.out.imp id fun h x hx => h x (List.mem_of_mem_drop (htl ▸ hx))⟩; clear hA1 htl hs HQ HLT HP HPP HC HP0 CS
    go_wp2_with (first | (go_at_call 118; (with_reducible refine (sure_yes _ _).mono ?_); rintro e w' ⟨rfl, rfl⟩) | (go_at_call 118; (with_reducible refine (sure_no _ _).mono ?_); rintro e w' ⟨rfl, rfl⟩))
    clear hne x0 hcut hlen hlen'
    go_loopg [6, 24] tl.length (fun kq v6 v24 w' => ∃ (j : Nat) (acc : List Int), v24 = .int .i64 (j : Int) ∧ Aside0 (j + kq = tl.length) ∧ Aside0 (numsF (tl.take j) = some acc ∧ Kd.R (Kd.int .i64) 3 w' w1.heap.size (fun _ => True) v6 acc ∧ Below w1.heap.size w1 w'))
    case atStart => exact ⟨0, [], rfl, ⟨by omega⟩, ⟨rfl, Kd.R_nil _ _ _ _ _, Below.refl _ _⟩⟩
    case round =>
      obtain ⟨j, acc, rfl, HJ, HA⟩ := hrel; obtain ⟨Ao, co, eo⟩ := Kd.R_slice HA.out.2.1; subst eo
      cases gk with
      | zero =>
        have c3 : decide ((j : Int) < (tl.length : Int)) = false := decide_eq_false (by have := HJ.out; omega); have c4 : ¬ (j < tl.length) := by have := HJ.out; omega
        go_wp2; go_ret; have hn : numsF tl = some acc := by have := HA.out.1; rwa [List.take_of_length_le (by omega)] at this
        exact ⟨below_step HB1.out HA.out.2.2, .inr ⟨acc, _, HTF.out.trans hn, rfl, Kd.R_lower HA.out.2.1 HB1.out.size⟩⟩
      | succ k2 =>
        have c3 : decide ((j : Int) < (tl.length : Int)) = true := decide_eq_true (by have := HJ.out; omega); have p1 : (0 : Int) ≤ (j : Int) := by omega
        have p2 : (j : Int) < (tl.length : Int) := by have := HJ.out; omega
        obtain ⟨ad2, ea2, x0⟩ := Kd.at_string HT.out j p1 p2
        cases ea2
        rw [Int.toNat_natCast] at x0; replace x0 := (HA.out.2.2.cell (World.block_lt_of_cell? _ _ x0)).trans x0; obtain ⟨x, hx⟩ : ∃ x, rdOf ByteArray.empty tl (j : Int) = x := ⟨_, rfl⟩; rw [hx] at x0
        have hget : tl[j]? = some x := by
          have hj : j < tl.length := by omega
          rw [List.getElem?_eq_getElem hj, ← hx]; simp [rdOf, List.getD, List.getElem?_eq_getElem hj]
        have HX := Aside0.mk hget; clear hx hget; have q1 := eq_true p1; have q2 := eq_true p2; go_wp2; clear c3 p1 p2 q1 q2 x0; obtain ⟨wo, rfl⟩ : ∃ wo : World, wo = wr := ⟨_, rfl⟩
        go_loopg [9] x.size (fun kq v9 w' => ∃ (pos : Nat) (n : Int), v9 = .int .i64 n ∧ w' = wo.iter x pos ∧ Aside0 (pos + kq = x.size ∧ digsF x pos = true ∧ (0 < pos → x.size ≤ 4) ∧ n = valF x pos))
        case atStart => exact ⟨0, 0, rfl, rfl, ⟨by omega, rfl, fun h => absurd h (by omega), rfl⟩⟩
        case round =>
          obtain ⟨pos, n, rfl, rfl, HI⟩ := hrel
          cases gk with
          | zero =>
            have hps : pos = x.size := by have := HI.out.1; omega
            have hnx := fun ty => run_next_end (P := Tryz.prog) wo x pos ty (by omega); have HXM : Aside0 (x ∈ tl) := ⟨List.mem_of_getElem? HX.out⟩; have HBI : Aside0 (Below wo.heap.size wo (wo.iter x pos)) := ⟨below_iter (Below.refl _ _) _ _⟩; have HRI : Aside0 (Kd.R (Kd.int .i64) 3 (wo.iter x pos) w1.heap.size (fun _ => True) (.slice Ao acc.length co) acc) := ⟨Kd.R_alloc HA.out.2.1 _⟩; obtain ⟨wi, hwi⟩ : ∃ wi, wi = wo.iter x pos := ⟨_, rfl⟩; rw [← hwi] at HBI HRI hnx ⊢; have HWI := Aside0.mk hwi; clear hwi
            by_cases h0 : x.size = 0
            case pos =>
              have hx0 : x.toList = [] := by rw [Lib.toList_data]; exact List.eq_nil_of_length_eq_zero (by rw [← Lib.size_eq]; exact h0)
              have hx1 : (!x.toList.isEmpty) = false := by rw [hx0]; rfl
              go_wp2_with (first | (go_at_call 118; (with_reducible refine (sure_yes _ _).mono ?_); rintro e w' ⟨rfl, rfl⟩) | (go_at_call 118; (with_reducible refine (sure_no _ _).mono ?_); rintro e w' ⟨rfl, rfl⟩))
              exact ⟨rfl, below_step (below_step HB1.out HA.out.2.2) HBI.out, .inl ⟨HTF.out.trans (nums_bad (num_bad_empty h0) HXM.out), _, rfl⟩⟩
            case neg =>
              have hx0 : x.toList.isEmpty = false := by
                rw [Lib.toList_data]
                cases h : x.data.toList with
                | nil => exact absurd (by rw [Lib.size_eq, h]; rfl) h0
                | cons _ _ => rfl
              have hx1 : (!x.toList.isEmpty) = true := by rw [hx0]; rfl
              have hx2 : ¬ (x.toList = []) := by intro h; rw [h] at hx0; cases hx0
              have h4 : x.size ≤ 4 := HI.out.2.2.1 (by omega); have hv := val_small HI.out.2.1 (by omega); rw [← HI.out.2.2.2] at hv
              have HG : Aside0 (Good wi n) := ⟨hv.1, by
                rcases HQ2.out with h | h
                · exact .inr ⟨by omega, h.below (below_step (below_step HB1.out HA.out.2.2) HBI.out)⟩
                · refine .inl ?_; have := h x HXM.out
                  rw [HI.out.2.2.2, hps]; exact this⟩
              by_cases hi : itoaS n = x
              case neg =>
                have hne := str_ne hi; have hne2 := str_ne (fun h => hi h.symm)
                go_wp2_with (first | (go_at_call 118; (with_reducible refine (sure_yes _ _).mono ?_); rintro e w' ⟨rfl, rfl⟩) | (go_at_call 118; (with_reducible refine (sure_no _ _).mono ?_); rintro e w' ⟨rfl, rfl⟩) | (go_at_call 115; refine (itoa_any _ _ HG.out).mono ?_; rintro e w4 ⟨si, rfl, Hsi, hbi⟩; obtain rfl := Hsi.out.1))
                exact ⟨rfl, below_step (below_step (below_step HB1.out HA.out.2.2) HBI.out) hbi, .inl ⟨HTF.out.trans (nums_bad (num_bad_itoa (by rw [← hps, ← HI.out.2.2.2]; exact hi)) HXM.out), _, rfl⟩⟩
              case pos =>
                have hee : ((itoaS n).toList == x.toList) = true := by rw [hi]; simp
                have hee2 : (x.toList == x.toList) = true := by simp
                go_wp2_with (first | (go_at_call 118; (with_reducible refine (sure_yes _ _).mono ?_); rintro e w' ⟨rfl, rfl⟩) | (go_at_call 118; (with_reducible refine (sure_no _ _).mono ?_); rintro e w' ⟨rfl, rfl⟩) | (go_at_call 115; refine (itoa_any _ _ HG.out).mono ?_; rintro e w4 ⟨si, rfl, Hsi, hbi⟩; obtain rfl := Hsi.out.1; replace HRI := Aside0.mk (Kd.R_below HRI.out hbi); have HSZ := Aside0.mk (Nat.le_trans (Nat.le_trans HA.out.2.2.size HBI.out.size) hbi.size)) | ((with_reducible refine gate_builtin (b := .append) (xs := #[.tmp 62, .tmp 64]) rfl ?_); (try (refine gate_guard (by rfl) ?_; dsimp only)); at_builtin; (refine Kd.R_append (Kd.int .i64) (w0 := w4) w1.heap.size rfl (.tmp 62) (.tmp 64) 25 3 (.int .i64 0) 8 rfl Tryz.underlying25 info3 rfl (by decide) (by omega) (.slice Ao acc.length co) acc n [.int .i64 n] (fun _ => True) (fun _ => False) rfl rfl ?aP (fun _ hk => hk.elim) ?aF ?aO ?aB ?aS ?aL ?_); (case aP => exact rfl); (case aB => exact Below.refl _ _); (case aF => exact (fun _ _ => trivial)); (case aO => exact HRI.out); (case aS => exact HSZ.out); (case aL => have hnl := nums_len HA.out.1; have := HL2.out; rw [List.length_take] at hnl; omega); intro vA wA ho hbA hgA hatA))
                go_roundg k2
                case measure => omega
                case rel => exact ⟨j + 1, acc ++ [n], (by rw [IntWalk.wrap64_in _ (by have := HL2.out; have := HJ.out; omega), Int.natCast_add, Int.natCast_one]), ⟨by have := HJ.out; omega⟩, ⟨by rw [List.take_add_one, HX.out]; show numsF (tl.take j ++ [x]) = _; rw [nums_snoc x _ _ HA.out.1, num_good HI.out.2.1 hps h4 h0 (by rw [← HI.out.2.2.2]; exact hi), ← HI.out.2.2.2]; rfl, ho, (below_step (below_step HA.out.2.2 HBI.out) hbi).trans hbA⟩⟩
          | succ k4 =>
            have hps : pos < x.size := by have := HI.out.1; omega
            by_cases hb : (x[pos]'hps).toNat < 128
            case neg =>
              have HBD : Aside0 (isDigB (bt x pos) = false) := ⟨by have : (((x[pos]'hps).toNat : Nat) : Int) = bt x pos := bt_at x (pos : Int) (by simpa using hps); rw [← this]; simp [isDigB]; omega⟩; have hhi := (decode_high x pos hps (by omega)).1; have hnx := fun ty => run_next_any (P := Tryz.prog) wo x pos ty hps; generalize (Utf8.decode x pos).1 = r at hhi hnx; generalize pos + (Utf8.decode x pos).2 = pos2 at hnx; have c1 : ((48 : Int) ≤ (r : Int)) = True := eq_true (by omega); have c2 : ((r : Int) ≤ 57) = False := eq_false (by omega); clear hhi
              go_wp2_with (first | (go_at_call 118; (with_reducible refine (sure_yes _ _).mono ?_); rintro e w' ⟨rfl, rfl⟩) | (go_at_call 118; (with_reducible refine (sure_no _ _).mono ?_); rintro e w' ⟨rfl, rfl⟩))
              exact ⟨rfl, below_iter (below_step HB1.out HA.out.2.2) _ _, .inl ⟨HTF.out.trans (nums_bad (num_bad_digit hps HBD.out) (List.mem_of_getElem? HX.out)), _, rfl⟩⟩
            case pos =>
              have hnx := fun ty => run_next_ascii (P := Tryz.prog) wo x pos ty hps hb; have hbt : (((x[pos]'hps).toNat : Nat) : Int) = bt x pos := bt_at x (pos : Int) (by simpa using hps); rw [hbt] at hnx; obtain ⟨b, hbb⟩ : ∃ b, bt x pos = b := ⟨_, rfl⟩; rw [hbb] at hnx; have HBB := Aside0.mk hbb; have hbr := bt_range x (pos : Int); rw [hbb] at hbr; clear hbt hbb hb
              by_cases hd : 48 ≤ b ∧ b ≤ 57 ∧ x.size ≤ 4
              case pos =>
                obtain ⟨d1, d2, d3⟩ := hd; have HV := Aside0.mk (val_small HI.out.2.1 (by omega)); have n0 : 0 ≤ n := by rw [HI.out.2.2.2]; exact HV.out.1
                have n1 : n ≤ 999 := by rw [HI.out.2.2.2]; exact HV.out.2.2 (by omega)
                have d3' : (x.size : Int) ≤ 4 := by omega
                go_wp2_with (first | (go_at_call 118; (with_reducible refine (sure_yes _ _).mono ?_); rintro e w' ⟨rfl, rfl⟩) | (go_at_call 118; (with_reducible refine (sure_no _ _).mono ?_); rintro e w' ⟨rfl, rfl⟩))
                go_roundg k4
                case measure => omega
                case rel => exact ⟨pos + 1, _, rfl, rfl, ⟨by have := HI.out.1; omega, by rw [digs_succ, HI.out.2.1, HBB.out]; simp [isDigB, d1, d2], fun _ => d3, by rw [HI.out.2.2.2, ← HBB.out]; rfl⟩⟩
              case neg =>
                have hdd : b < 48 ∨ (48 ≤ b ∧ 57 < b) ∨ (48 ≤ b ∧ b ≤ 57 ∧ 4 < x.size) := by omega
                clear hd
                rcases hdd with d1 | ⟨d1, d2⟩ | ⟨d1, d2, d3⟩
                all_goals (try have d3' : ¬ ((x.size : Int) ≤ 4) := by omega)
                all_goals (try have d2' : ¬ (b ≤ 57) := by omega)
                all_goals (try have d1' : ¬ (48 ≤ b) := by omega)
                all_goals
                  go_wp2_with (first | (go_at_call 118; (with_reducible refine (sure_yes _ _).mono ?_); rintro e w' ⟨rfl, rfl⟩) | (go_at_call 118; (with_reducible refine (sure_no _ _).mono ?_); rintro e w' ⟨rfl, rfl⟩))
                  first
                    | exact ⟨rfl, below_iter (below_step HB1.out HA.out.2.2) _ _, .inl ⟨HTF.out.trans (nums_bad (num_bad_digit hps (by rw [HBB.out]; simp [isDigB]; omega)) (List.mem_of_getElem? HX.out)), _, rfl⟩⟩
                    | exact ⟨rfl, below_iter (below_step HB1.out HA.out.2.2) _ _, .inl ⟨HTF.out.trans (nums_bad (num_bad_size d3) (List.mem_of_getElem? HX.out)), _, rfl⟩⟩
end Go.Proofs.YtdmdahafiiggiabGreatDoor.K
end
