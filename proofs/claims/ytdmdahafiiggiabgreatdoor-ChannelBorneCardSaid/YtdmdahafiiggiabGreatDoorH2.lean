/- The walks of the functions that the laws of this seat call, and what they compute; joined out of smaller texts, part 2. -/
import Derived.Test.YtdmdahafiiggiabGreatDoorProg
import Derived.Below
import Derived.Deep.Draws
import Derived.Deep.AppendLies
import Derived.Maps.AppendAt
import Derived.OwnWalk
import Derived.Laws.BytesArg
import Derived.Laws.MakeOwn
import Derived.Laws.OwnMore
import Derived.Deep.OwnRows
import Derived.Tactics
import Derived.Lib.ConvBytes
import Derived.Laws.Slices
import Derived.WalkKit
import Derived.KernelRfl
import Derived.RowKit3
import Derived.Deep.LoopGhost
import Derived.Deep.QuietTactic
import Derived.BigQuiet
import Derived.WideLaws
import Derived.Deep.DeepCutAuto
import Derived.Deep.CutBlock
import Derived.Deep.RegionHeld3
import Derived.Laws.Rows
import Derived.Lib.AppendStr
import Derived.ArgAppend
import Derived.Laws.IdiomCopy
import Derived.OrdersHeld
import Derived.Laws.BitsLemmas
import Derived.RowKit
import Derived.Shelf.Abstract
import Derived.RangeFuncNested
import Derived.RangeFuncBound
import Derived.RangeFuncCalls
import Derived.RangeFuncLeaves
import Derived.RangeFuncWrites
import Derived.Shelf.RegionOpen
import Derived.OwnWalkIn
import Derived.TacticsInMore
import Derived.LoopNIn
import Derived.LoopIn
import Derived.Lib.SliceRun
import Derived.WalkSpells
import Derived.Outline
import Derived.Shelf.SortM.Plain
import Derived.Shelf.SortM.SortNone
import Derived.Ground.SlgmProg
import Derived.Lib.SlKeysI
import Derived.Sort.OwnSorted
import Derived.Test.YtdmdahafiiggiabGreatDoorH1
set_option linter.unusedVariables false
set_option linter.unusedSimpArgs false
namespace Go.Proofs.YtdmdahafiiggiabGreatDoor.K
theorem uD {p : Prop} [Decidable p] (h : decide p = true := by first | (with_reducible assumption) | assumption) : p := of_decide_eq_true h
end Go.Proofs.YtdmdahafiiggiabGreatDoor.K
section
namespace Go.Proofs.YtdmdahafiiggiabGreatDoor.K
open Go.RowKit Go.Proofs.YtdmdahafiiggiabGreatDoorW.PrintWords Go.Proofs.YtdmdahafiiggiabGreatDoorW.PrintLast Go.Proofs.YtdmdahafiiggiabGreatDoorW.PrintMore
attribute [local go_sem] max2_int min2_int max_two min_two max_three min_three max_four min_four
def errW : Option Int → Value
  | none => .nilIface
  | some c => .iface 0 (.int .i64 c)
theorem errW_none : errW none = .nilIface := rfl
theorem errW_some (c : Int) : errW (some c) = .iface 0 (.int .i64 c) := rfl
theorem info3 : (Tryz.prog.info? 3).map (fun i => (i.zero, i.size, i.bytes)) = some (some (.int .i64 0), 1, 8) := by kernel_rfl
theorem info4 : (Tryz.prog.info? 4).map (fun i => (i.zero, i.size, i.bytes)) = some (some (.bool false), 1, 1) := by kernel_rfl
theorem info23 : (Tryz.prog.info? 23).map (fun i => (i.zero, i.size, i.bytes)) = some (some (.agg #[(.int .i64 0), (.int .i64 0)]), 2, 16) := by kernel_rfl
theorem info66 : (Tryz.prog.info? 66).map (fun i => (i.zero, i.size, i.bytes)) = some (some (.agg #[(.int .i64 0), (.int .i64 0), (.int .i64 0), (.int .i64 0), (.int .i64 0)]), 5, 40) := by kernel_rfl
structure S23 where
  f0 : Int
  f1 : Int
def z23 : S23 := ⟨(0 : Int), (0 : Int)⟩
def k23 : Kd S23 := Kd.iso (Kd.pair (Kd.int .i64) (Kd.int .i64)) (fun x : S23 => (x.f0, x.f1))
theorem k23_open {w : World} {x : S23} {cs : List Value} (h : k23.K w x cs) : cs = [.int .i64 x.f0, .int .i64 x.f1] := by
  obtain ⟨_, _, rfl, rfl, rfl⟩ := h; exact rfl
theorem k23_mk (w : World) (x : S23)  : k23.K w x [.int .i64 x.f0, .int .i64 x.f1] := ⟨[.int .i64 x.f0], [.int .i64 x.f1], rfl, rfl, rfl⟩
theorem k23_mkM (w : World) (base : Nat) (ok : Nat → Prop) (x : S23)  : k23.M w base ok x [.int .i64 x.f0, .int .i64 x.f1] := ⟨[.int .i64 x.f0], [.int .i64 x.f1], rfl, rfl, rfl⟩
def rd_T23 (xs : List S23) (i : Int) : S23 := xs.getD i.toNat z23
theorem at_T23 {w : World} {A : Option Addr} {n : Nat} {xs : List S23} (h : Kd.C k23 w A n xs) (i : Int) (h0 : 0 ≤ i) (h1 : i < n) : ∃ ad , A = some ad ∧ w.cell? (ad.add (i.toNat * 2)) = some (.int .i64 (rd_T23 xs i).f0) ∧ w.cell? ⟨(ad.add (i.toNat * 2)).block, (ad.add (i.toNat * 2)).off + 1, none⟩ = some (.int .i64 (rd_T23 xs i).f1) := by
  obtain ⟨ad, c, e, _, hK, hc0⟩ := Kd.C_get h z23 i h0 h1; have hc : ∀ j u, c[j]? = some u → w.cell? (ad.add (i.toNat * 2 + j)) = some u := hc0; obtain rfl := k23_open hK; exact ⟨ad, e, hc 0 _ rfl, by rw [← add_field _ _ 1 (by omega)]; exact hc 1 _ rfl⟩
structure S53 where
  f0 : Int
  f1 : Int
  f2 : Int
def z53 : S53 := ⟨(0 : Int), (0 : Int), (0 : Int)⟩
def k53 : Kd S53 := Kd.iso (Kd.pair (Kd.int .i64) (Kd.pair (Kd.int .i64) (Kd.int .i64))) (fun x : S53 => (x.f0, x.f1, x.f2))
theorem k53_open {w : World} {x : S53} {cs : List Value} (h : k53.K w x cs) : cs = [.int .i64 x.f0, .int .i64 x.f1, .int .i64 x.f2] := by
  obtain ⟨_, _, rfl, rfl, ⟨_, _, rfl, rfl, rfl⟩⟩ := h; exact rfl
theorem k53_mk (w : World) (x : S53)  : k53.K w x [.int .i64 x.f0, .int .i64 x.f1, .int .i64 x.f2] := ⟨[.int .i64 x.f0], [.int .i64 x.f1, .int .i64 x.f2], rfl, rfl, ⟨[.int .i64 x.f1], [.int .i64 x.f2], rfl, rfl, rfl⟩⟩
theorem k53_mkM (w : World) (base : Nat) (ok : Nat → Prop) (x : S53)  : k53.M w base ok x [.int .i64 x.f0, .int .i64 x.f1, .int .i64 x.f2] := ⟨[.int .i64 x.f0], [.int .i64 x.f1, .int .i64 x.f2], rfl, rfl, ⟨[.int .i64 x.f1], [.int .i64 x.f2], rfl, rfl, rfl⟩⟩
def rd_T53 (xs : List S53) (i : Int) : S53 := xs.getD i.toNat z53
theorem at_T53 {w : World} {A : Option Addr} {n : Nat} {xs : List S53} (h : Kd.C k53 w A n xs) (i : Int) (h0 : 0 ≤ i) (h1 : i < n) : ∃ ad , A = some ad ∧ w.cell? (ad.add (i.toNat * 3)) = some (.int .i64 (rd_T53 xs i).f0) ∧ w.cell? ⟨(ad.add (i.toNat * 3)).block, (ad.add (i.toNat * 3)).off + 1, none⟩ = some (.int .i64 (rd_T53 xs i).f1) ∧ w.cell? ⟨(ad.add (i.toNat * 3)).block, (ad.add (i.toNat * 3)).off + 2, none⟩ = some (.int .i64 (rd_T53 xs i).f2) := by
  obtain ⟨ad, c, e, _, hK, hc0⟩ := Kd.C_get h z53 i h0 h1; have hc : ∀ j u, c[j]? = some u → w.cell? (ad.add (i.toNat * 3 + j)) = some u := hc0; obtain rfl := k53_open hK; exact ⟨ad, e, hc 0 _ rfl, by rw [← add_field _ _ 1 (by omega)]; exact hc 1 _ rfl, by rw [← add_field _ _ 2 (by omega)]; exact hc 2 _ rfl⟩
structure S66 where
  f0 : Int
  f1 : Int
  f2 : Int
  f3 : S23
def z66 : S66 := ⟨(0 : Int), (0 : Int), (0 : Int), z23⟩
def k66 : Kd S66 := Kd.iso (Kd.pair (Kd.int .i64) (Kd.pair (Kd.int .i64) (Kd.pair (Kd.int .i64) k23))) (fun x : S66 => (x.f0, x.f1, x.f2, x.f3))
theorem k66_open {w : World} {x : S66} {cs : List Value} (h : k66.K w x cs) : cs = [.int .i64 x.f0, .int .i64 x.f1, .int .i64 x.f2, .int .i64 x.f3.f0, .int .i64 x.f3.f1] := by
  obtain ⟨_, _, rfl, rfl, ⟨_, _, rfl, rfl, ⟨_, _, rfl, rfl, s3⟩⟩⟩ := h; obtain rfl := k23_open s3; exact rfl
theorem k66_mk (w : World) (x : S66)  : k66.K w x [.int .i64 x.f0, .int .i64 x.f1, .int .i64 x.f2, .int .i64 x.f3.f0, .int .i64 x.f3.f1] := ⟨[.int .i64 x.f0], [.int .i64 x.f1, .int .i64 x.f2, .int .i64 x.f3.f0, .int .i64 x.f3.f1], rfl, rfl, ⟨[.int .i64 x.f1], [.int .i64 x.f2, .int .i64 x.f3.f0, .int .i64 x.f3.f1], rfl, rfl, ⟨[.int .i64 x.f2], [.int .i64 x.f3.f0, .int .i64 x.f3.f1], rfl, rfl, (k23_mk w x.f3 )⟩⟩⟩
theorem k66_mkM (w : World) (base : Nat) (ok : Nat → Prop) (x : S66)  : k66.M w base ok x [.int .i64 x.f0, .int .i64 x.f1, .int .i64 x.f2, .int .i64 x.f3.f0, .int .i64 x.f3.f1] := ⟨[.int .i64 x.f0], [.int .i64 x.f1, .int .i64 x.f2, .int .i64 x.f3.f0, .int .i64 x.f3.f1], rfl, rfl, ⟨[.int .i64 x.f1], [.int .i64 x.f2, .int .i64 x.f3.f0, .int .i64 x.f3.f1], rfl, rfl, ⟨[.int .i64 x.f2], [.int .i64 x.f3.f0, .int .i64 x.f3.f1], rfl, rfl, (k23_mkM w base ok x.f3 )⟩⟩⟩
def rd_T66 (xs : List S66) (i : Int) : S66 := xs.getD i.toNat z66
theorem at_T66 {w : World} {A : Option Addr} {n : Nat} {xs : List S66} (h : Kd.C k66 w A n xs) (i : Int) (h0 : 0 ≤ i) (h1 : i < n) : ∃ ad , A = some ad ∧ w.cell? (ad.add (i.toNat * 5)) = some (.int .i64 (rd_T66 xs i).f0) ∧ w.cell? ⟨(ad.add (i.toNat * 5)).block, (ad.add (i.toNat * 5)).off + 1, none⟩ = some (.int .i64 (rd_T66 xs i).f1) ∧ w.cell? ⟨(ad.add (i.toNat * 5)).block, (ad.add (i.toNat * 5)).off + 2, none⟩ = some (.int .i64 (rd_T66 xs i).f2) ∧ w.cell? ⟨(ad.add (i.toNat * 5)).block, (ad.add (i.toNat * 5)).off + 3, none⟩ = some (.int .i64 (rd_T66 xs i).f3.f0) ∧ w.cell? ⟨(ad.add (i.toNat * 5)).block, (ad.add (i.toNat * 5)).off + 4, none⟩ = some (.int .i64 (rd_T66 xs i).f3.f1) := by
  obtain ⟨ad, c, e, _, hK, hc0⟩ := Kd.C_get h z66 i h0 h1; have hc : ∀ j u, c[j]? = some u → w.cell? (ad.add (i.toNat * 5 + j)) = some u := hc0; obtain rfl := k66_open hK; exact ⟨ad, e, hc 0 _ rfl, by rw [← add_field _ _ 1 (by omega)]; exact hc 1 _ rfl, by rw [← add_field _ _ 2 (by omega)]; exact hc 2 _ rfl, by rw [← add_field _ _ 3 (by omega)]; exact hc 3 _ rfl, by rw [← add_field _ _ 4 (by omega)]; exact hc 4 _ rfl⟩
structure S89 where
  f0 : Int
  f1 : S23
def z89 : S89 := ⟨(0 : Int), z23⟩
def k89 : Kd S89 := Kd.iso (Kd.pair (Kd.int .i64) k23) (fun x : S89 => (x.f0, x.f1))
theorem k89_open {w : World} {x : S89} {cs : List Value} (h : k89.K w x cs) : cs = [.int .i64 x.f0, .int .i64 x.f1.f0, .int .i64 x.f1.f1] := by
  obtain ⟨_, _, rfl, rfl, s1⟩ := h; obtain rfl := k23_open s1; exact rfl
theorem k89_mk (w : World) (x : S89)  : k89.K w x [.int .i64 x.f0, .int .i64 x.f1.f0, .int .i64 x.f1.f1] := ⟨[.int .i64 x.f0], [.int .i64 x.f1.f0, .int .i64 x.f1.f1], rfl, rfl, (k23_mk w x.f1 )⟩
def rd_T89 (xs : List S89) (i : Int) : S89 := xs.getD i.toNat z89
theorem at_T89 {w : World} {A : Option Addr} {n : Nat} {xs : List S89} (h : Kd.C k89 w A n xs) (i : Int) (h0 : 0 ≤ i) (h1 : i < n) : ∃ ad , A = some ad ∧ w.cell? (ad.add (i.toNat * 3)) = some (.int .i64 (rd_T89 xs i).f0) ∧ w.cell? ⟨(ad.add (i.toNat * 3)).block, (ad.add (i.toNat * 3)).off + 1, none⟩ = some (.int .i64 (rd_T89 xs i).f1.f0) ∧ w.cell? ⟨(ad.add (i.toNat * 3)).block, (ad.add (i.toNat * 3)).off + 2, none⟩ = some (.int .i64 (rd_T89 xs i).f1.f1) := by
  obtain ⟨ad, c, e, _, hK, hc0⟩ := Kd.C_get h z89 i h0 h1; have hc : ∀ j u, c[j]? = some u → w.cell? (ad.add (i.toNat * 3 + j)) = some u := hc0; obtain rfl := k89_open hK; exact ⟨ad, e, hc 0 _ rfl, by rw [← add_field _ _ 1 (by omega)]; exact hc 1 _ rfl, by rw [← add_field _ _ 2 (by omega)]; exact hc 2 _ rfl⟩
end Go.Proofs.YtdmdahafiiggiabGreatDoor.K
end
section
namespace Go.Proofs.YtdmdahafiiggiabGreatDoor.K
open Go.RowKit Go.Proofs.YtdmdahafiiggiabGreatDoorW.PrintWords Go.Proofs.YtdmdahafiiggiabGreatDoorW.PrintLast Go.Proofs.YtdmdahafiiggiabGreatDoorW.PrintMore
theorem uB {p : Prop} (h : p := by repeat (first | (with_reducible first | exact HB.out | apply below_alloc | apply pw_below_drewN | apply below_drew1 | refine below_set ?_ (Aside0.out (by assumption))) | exact HB.out)) : p := h
theorem uK {p q : Prop} (h : p) (k : p → q := by intro h_; (with_reducible repeat (first | refine blk_drewN ?_ _ | refine blk_drew ?_ | refine blk_alloc ?_ _)); exact h_) : q := k h
theorem uR {p q : Prop} (h : p) (k : p → q := by intro h_; (with_reducible repeat (first | apply Kd.R_alloc | apply Kd.R_drewN | apply Kd.R_drew)); exact h_) : q := k h
theorem u0 {p : Prop} (h : p := by first | rfl | (simp; done) | (simp [*]; done)) : p := h
theorem uE {p : Prop} (h : p := by first | rfl | (simp [errW_none, errW_some] <;> rfl) | (simp [*, errW_none, errW_some] <;> rfl)) : p := h
theorem u1 {p : Prop} (h : p := by first | omega | exact Nat.le_refl _) : p := h
theorem uN {p : Prop} (h : p := by first | exact Kd.R_nil _ _ _ _ _ | exact Kd.N_nil _ _ _ _ _ | exact Kd.V_nil _ _ _ _ _ | exact Kd.Q_nil _ _ _ _ _ | exact Kd.S_nil _ _ _ _ _) : p := h
theorem uM {p : Prop} (h : p := by (try simp only [List.map_toArray, List.map_cons, List.map_nil]); first | done | rfl | (simp only [List.length_drop, List.length_take]; rfl)) : p := h
theorem bl1 {w : World} {a : Addr} {v : Value} {q : Prop} (h : w.cell? a = some v) (k : a.block < w.heap.size → q := by intro this; first | rwa [add_block] at this | exact this) : q := k (World.block_lt_of_cell? w _ h)
theorem fx {p q : Prop} (h : p) (k : p → q := by intro h_; first | exact h_ | (rw [add_block]; exact h_) | (show (Addr.add _ _).block ≠ _; rw [add_block]; exact h_) | (dsimp only; exact h_)) : q := k h
theorem ifs {α : Type} {c : Prop} [Decidable c] {a : Option α} {r : α} (h : (if c then a else none) = some r) : c ∧ a = some r := by
  by_cases hc : c
  · rw [if_pos hc] at h; exact ⟨hc, h⟩
  · rw [if_neg hc] at h
    cases h
theorem hcell {w W : World} {a : Addr} {v : Value} (hb : Below w.heap.size w W) (h : w.cell? a = some v) : W.cell? a = some v := (hb.cell (World.block_lt_of_cell? w _ h)).trans h
def bl (n m : Nat) : Array Bool := ((List.range n).map fun i => m.testBit i).toArray
section
variable {P : Program} {ops : Array Oper} {Q : Exit → Act → World → Prop} {md : Region.Mode} {S : World → Prop} {ds : List Nat} {oi : Oper} {v : Value} {fuel : Nat} {l : Array Bool} {a a' : Act} {w : World} {rest : List Oper} {o : Oper} {W : World} {Kc : Act → World → Prop}
theorem nm (h : wpAnyLast P md ops Q S ds fuel l a' w) (ha : a = a' := by first | (show Act.put _ (some _) _ = _; simp only [Act.put, List.setIfInBounds_toArray, List.set_cons_zero, List.set_cons_succ, i64_w, i32_w]; rfl) | (simp only [putAll, Act.put, List.setIfInBounds_toArray, List.set_cons_zero, List.set_cons_succ]; rfl)) : wpAnyLast P md ops Q S ds fuel l a w := norm_ ha h
theorem pu (i N n m : Nat) (h : wpAnyLast P md ops Q S ds fuel (bl n m) a' w) (hi : ops[i]? = some oi := by exact rfl) (hN : oi.dst = some N := by exact rfl) (hc : anyB md ops l (bl n m) i = true := by first | exact any_of HT_.out (by kernel_rfl) | kernel_rfl)
    (hQ : ∀ c a w, Q (.panic c) (a.put oi.dst v) w → Q (.panic c) a w := by exact fun _ _ _ h => h) (hy : Yields P ops oi v a := by (refine Or.inl ⟨by rfl, ?_⟩; intro w'; go_simp; with_reducible rfl))
    (ha : a.put (some N) v = a' := by (simp only [Act.put, List.setIfInBounds_toArray, List.set_cons_zero, List.set_cons_succ, i64_w, i32_w]; rfl)) : wpAnyLast P md ops Q S ds (fuel + 1) l a w := pure_ (bl n m) hi hN hc hQ hy ha h
theorem tk1 (i N n m : Nat) (hS : S w) (h : wpAnyLast P md ops Q S ds fuel (bl n m) a' w) (hi : ops[i]? = some oi := by exact rfl) (hN : oi.dst = some N := by exact rfl) (hc : takeB md ops ds l (bl n m) i = true := by first | exact take_ofW HT_.out HW_.out (by kernel_rfl) | exact take_of HT_.out (by kernel_rfl) | kernel_rfl)
    (hQ : ∀ c a w, Q (.panic c) (a.put oi.dst v) w → Q (.panic c) a w := by exact fun _ _ _ h => h) (hy : YieldsIf P ops S oi v a := by (refine Or.inl ⟨by rfl, ?_⟩; intro w' s0; go_simp; with_reducible rfl))
    (ha : a.put (some N) v = a' := by (simp only [Act.put, List.setIfInBounds_toArray, List.set_cons_zero, List.set_cons_succ, i64_w, i32_w]; rfl)) : wpAnyLast P md ops Q S ds (fuel + 1) l a w := take_ (bl n m) hi hN hc hQ hy hS ha h
theorem tk2 (i N n m : Nat) (hS : S w) (h : wpAnyLast P md ops Q S ds fuel (bl n m) a' w) (hi : ops[i]? = some oi := by exact rfl) (hN : oi.dst = some N := by exact rfl) (hc : takeB md ops ds l (bl n m) i = true := by first | exact take_ofW HT_.out HW_.out (by kernel_rfl) | exact take_of HT_.out (by kernel_rfl) | kernel_rfl)
    (hQ : ∀ c a w, Q (.panic c) (a.put oi.dst v) w → Q (.panic c) a w := by exact fun _ _ _ h => h) (hy : YieldsIf P ops S oi v a := by (refine Or.inl ⟨by rfl, ?_⟩; rintro w' ⟨s0, s1⟩; go_simp; with_reducible rfl))
    (ha : a.put (some N) v = a' := by (simp only [Act.put, List.setIfInBounds_toArray, List.set_cons_zero, List.set_cons_succ, i64_w, i32_w]; rfl)) : wpAnyLast P md ops Q S ds (fuel + 1) l a w := take_ (bl n m) hi hN hc hQ hy hS ha h
theorem tk4 (i N n m : Nat) (hS : S w) (h : wpAnyLast P md ops Q S ds fuel (bl n m) a' w) (hi : ops[i]? = some oi := by exact rfl) (hN : oi.dst = some N := by exact rfl) (hc : takeB md ops ds l (bl n m) i = true := by first | exact take_ofW HT_.out HW_.out (by kernel_rfl) | exact take_of HT_.out (by kernel_rfl) | kernel_rfl)
    (hQ : ∀ c a w, Q (.panic c) (a.put oi.dst v) w → Q (.panic c) a w := by exact fun _ _ _ h => h) (hy : YieldsIf P ops S oi v a := by (refine Or.inl ⟨by rfl, ?_⟩; rintro w' ⟨s0, s1, s2, s3⟩; go_simp; with_reducible rfl))
    (ha : a.put (some N) v = a' := by (simp only [Act.put, List.setIfInBounds_toArray, List.set_cons_zero, List.set_cons_succ, i64_w, i32_w]; rfl)) : wpAnyLast P md ops Q S ds (fuel + 1) l a w := take_ (bl n m) hi hN hc hQ hy hS ha h
theorem tk8 (i N n m : Nat) (hS : S w) (h : wpAnyLast P md ops Q S ds fuel (bl n m) a' w) (hi : ops[i]? = some oi := by exact rfl) (hN : oi.dst = some N := by exact rfl) (hc : takeB md ops ds l (bl n m) i = true := by first | exact take_ofW HT_.out HW_.out (by kernel_rfl) | exact take_of HT_.out (by kernel_rfl) | kernel_rfl)
    (hQ : ∀ c a w, Q (.panic c) (a.put oi.dst v) w → Q (.panic c) a w := by exact fun _ _ _ h => h) (hy : YieldsIf P ops S oi v a := by (refine Or.inl ⟨by rfl, ?_⟩; rintro w' ⟨s0, s1, s2, s3, s4, s5, s6, s7⟩; go_simp; with_reducible rfl))
    (ha : a.put (some N) v = a' := by (simp only [Act.put, List.setIfInBounds_toArray, List.set_cons_zero, List.set_cons_succ, i64_w, i32_w]; rfl)) : wpAnyLast P md ops Q S ds (fuel + 1) l a w := take_ (bl n m) hi hN hc hQ hy hS ha h
theorem bxs (N : Nat) (cs : Array Value) (t : TypeId) (h : ∀ g, g = W.heap.size → ∀ w1, w1.heap[g]? = some (.cells cs t (0, 0)) → Below W.heap.size W w1 → Kc (a.put o.dst (.pointer (some ⟨g, 0, none⟩))) w1) (hd : o.dst = some N := by exact rfl) (hg : Region.wanted o (yielded ops a.tmps) = true := by rfl)
    (hr : (execOp a.eval o).run P W = .ok (.value (.pointer (some ⟨W.heap.size, 0, none⟩))) (W.alloc (.cells cs t (0, 0))) := by first | (go_simp; done) | (go_simp; rfl)) : if Region.wanted o (yielded ops a.tmps) = true then Oper.wp P o a W Kc Q else Kc (a.put o.dst undef) W := box_step hg hd hr h
theorem bxe (N : Nat) (cs : Array Value) (t : TypeId) (h : ∀ g, g = W.heap.size → ∀ w1, w1.heap[g]? = some (.cells cs t (0, 0)) → Below W.heap.size W w1 → wpList P ops Q rest (a.put o.dst (.pointer (some ⟨g, 0, none⟩))) w1) (hd : o.dst = some N := by exact rfl) (hg : o.guard = none := by rfl)
    (hr : (execOp a.eval o).run P W = .ok (.value (.pointer (some ⟨W.heap.size, 0, none⟩))) (W.alloc (.cells cs t (0, 0))) := by first | (go_simp; done) | (go_simp; rfl)) : wpList P ops Q (o :: rest) a W := box_event hg hd hr h
end
section
variable {w W W' w1 : World} {g gb : Nat} {o : Obj}
theorem gw (hg : gb = W.heap.size) (h : Below w.heap.size w W := by repeat (first | (with_reducible first | exact HB.out | apply below_alloc | apply pw_below_drewN | apply below_drew1 | refine below_set ?_ (Aside0.out (by assumption))) | exact HB.out)) : Aside0 (w.heap.size ≤ gb) := ⟨by rw [hg]; exact h.size⟩
theorem nb (h : Aside0 (W'.heap[g]? = some o)) (hg : gb = W.heap.size) (k : W'.heap[g]? = some o → W.heap[g]? = some o := by intro h_; (with_reducible repeat (first | refine blk_drewN ?_ _ | refine blk_drew ?_ | refine blk_alloc ?_ _)); exact h_) : Aside0 (g ≠ gb) := ⟨by rw [hg]; exact Nat.ne_of_lt (blk_lt (k h.out))⟩
theorem nc (h : Aside0 (W'.heap[g]? = some o)) (hg : gb = W.heap.size) (k : W'.heap[g]? = some o → W.heap[g]? = some o := by intro h_; (with_reducible repeat (first | refine blk_drewN ?_ _ | refine blk_drew ?_ | refine blk_alloc ?_ _)); exact h_) : Aside0 (gb ≠ g) := ⟨by rw [hg]; exact Nat.ne_of_gt (blk_lt (k h.out))⟩
theorem rE {α : Type} {d : Kd α} {e base : Nat} {ok : Nat → Prop} {v : Value} {xs : List α} (h : Aside0 (d.R e W' base ok v xs)) (hg : gb = W.heap.size) (hb : Below W.heap.size W w1) (k : d.R e W' base ok v xs → d.R e W base ok v xs := by intro h_; (with_reducible repeat (first | apply Kd.R_alloc | apply Kd.R_drewN | apply Kd.R_drew)); exact h_) : Aside0 (d.R e w1 base (fun k => ok k ∧ k ≠ gb) v xs) := ⟨Kd.R_below (Kd.R_elderB (k h.out) gb (Nat.le_of_eq hg.symm)) hb⟩
theorem cf (g : Nat) {i : Nat} {a : Addr} {v : Value} (h : a.block ≠ g) : (W.setCell ⟨g, i, none⟩ v).cell? a = W.cell? a := cell_far (p := ⟨g, i, none⟩) h v
theorem fl {a : Addr} {v : Value} {q : Prop} (h : w.cell? a = some v) (hg : Aside0 (w.heap.size ≤ gb)) (k : a.block ≠ gb → q := by intro h_; first | exact h_ | (rw [add_block]; exact h_) | (show (Addr.add _ _).block ≠ _; rw [add_block]; exact h_) | (dsimp only; exact h_) | (rw [add_block] at h_; exact h_)) : q := k (Nat.ne_of_lt (Nat.lt_of_lt_of_le (World.block_lt_of_cell? w _ h) hg.out))
end
section
variable {w : World} {g : Nat} {t : TypeId}
theorem cz2 {x0 x1 : Value} (h : w.heap[g]? = some (.cells #[x0, x1] t (0, 0))) : w.cell? ⟨g, 0, none⟩ = some x0 ∧ w.cell? ⟨g, 1, none⟩ = some x1 := ⟨(blk_cell h 0).trans rfl, (blk_cell h 1).trans rfl⟩
theorem fz2 {x0 x1 : Value} (h : w.heap[g]? = some (.cells #[x0, x1] t (0, 0))) : w.frozen? ⟨g, 0, none⟩ = false ∧ w.frozen? ⟨g, 1, none⟩ = false := ⟨blk_frozen h 0, blk_frozen h 1⟩
theorem cz4 {x0 x1 x2 x3 : Value} (h : w.heap[g]? = some (.cells #[x0, x1, x2, x3] t (0, 0))) : w.cell? ⟨g, 0, none⟩ = some x0 ∧ w.cell? ⟨g, 1, none⟩ = some x1 ∧ w.cell? ⟨g, 2, none⟩ = some x2 ∧ w.cell? ⟨g, 3, none⟩ = some x3 := ⟨(blk_cell h 0).trans rfl, (blk_cell h 1).trans rfl, (blk_cell h 2).trans rfl, (blk_cell h 3).trans rfl⟩
theorem fz4 {x0 x1 x2 x3 : Value} (h : w.heap[g]? = some (.cells #[x0, x1, x2, x3] t (0, 0))) : w.frozen? ⟨g, 0, none⟩ = false ∧ w.frozen? ⟨g, 1, none⟩ = false ∧ w.frozen? ⟨g, 2, none⟩ = false ∧ w.frozen? ⟨g, 3, none⟩ = false := ⟨blk_frozen h 0, blk_frozen h 1, blk_frozen h 2, blk_frozen h 3⟩
theorem cz5 {x0 x1 x2 x3 x4 : Value} (h : w.heap[g]? = some (.cells #[x0, x1, x2, x3, x4] t (0, 0))) : w.cell? ⟨g, 0, none⟩ = some x0 ∧ w.cell? ⟨g, 1, none⟩ = some x1 ∧ w.cell? ⟨g, 2, none⟩ = some x2 ∧ w.cell? ⟨g, 3, none⟩ = some x3 ∧ w.cell? ⟨g, 4, none⟩ = some x4 := ⟨(blk_cell h 0).trans rfl, (blk_cell h 1).trans rfl, (blk_cell h 2).trans rfl, (blk_cell h 3).trans rfl, (blk_cell h 4).trans rfl⟩
theorem fz5 {x0 x1 x2 x3 x4 : Value} (h : w.heap[g]? = some (.cells #[x0, x1, x2, x3, x4] t (0, 0))) : w.frozen? ⟨g, 0, none⟩ = false ∧ w.frozen? ⟨g, 1, none⟩ = false ∧ w.frozen? ⟨g, 2, none⟩ = false ∧ w.frozen? ⟨g, 3, none⟩ = false ∧ w.frozen? ⟨g, 4, none⟩ = false := ⟨blk_frozen h 0, blk_frozen h 1, blk_frozen h 2, blk_frozen h 3, blk_frozen h 4⟩
theorem cz7 {x0 x1 x2 x3 x4 x5 x6 : Value} (h : w.heap[g]? = some (.cells #[x0, x1, x2, x3, x4, x5, x6] t (0, 0))) : w.cell? ⟨g, 0, none⟩ = some x0 ∧ w.cell? ⟨g, 1, none⟩ = some x1 ∧ w.cell? ⟨g, 2, none⟩ = some x2 ∧ w.cell? ⟨g, 3, none⟩ = some x3 ∧ w.cell? ⟨g, 4, none⟩ = some x4 ∧ w.cell? ⟨g, 5, none⟩ = some x5 ∧ w.cell? ⟨g, 6, none⟩ = some x6 := ⟨(blk_cell h 0).trans rfl, (blk_cell h 1).trans rfl, (blk_cell h 2).trans rfl, (blk_cell h 3).trans rfl, (blk_cell h 4).trans rfl, (blk_cell h 5).trans rfl, (blk_cell h 6).trans rfl⟩
theorem fz7 {x0 x1 x2 x3 x4 x5 x6 : Value} (h : w.heap[g]? = some (.cells #[x0, x1, x2, x3, x4, x5, x6] t (0, 0))) : w.frozen? ⟨g, 0, none⟩ = false ∧ w.frozen? ⟨g, 1, none⟩ = false ∧ w.frozen? ⟨g, 2, none⟩ = false ∧ w.frozen? ⟨g, 3, none⟩ = false ∧ w.frozen? ⟨g, 4, none⟩ = false ∧ w.frozen? ⟨g, 5, none⟩ = false ∧ w.frozen? ⟨g, 6, none⟩ = false := ⟨blk_frozen h 0, blk_frozen h 1, blk_frozen h 2, blk_frozen h 3, blk_frozen h 4, blk_frozen h 5, blk_frozen h 6⟩
end
end Go.Proofs.YtdmdahafiiggiabGreatDoor.K
end
section
namespace Go.Proofs.YtdmdahafiiggiabGreatDoor.K
open Go.RowKit Go.Proofs.YtdmdahafiiggiabGreatDoorW.PrintWords Go.Proofs.YtdmdahafiiggiabGreatDoorW.PrintLast Go.Proofs.YtdmdahafiiggiabGreatDoorW.PrintMore
def PredB {α : Type} (g : Nat) (lb : Array Value) (enc : α → Value) (p : α → Bool) (w : World) : Prop :=
  ∀ (W : World) (x : α), Below w.heap.size w W → Calls Tryz.prog g (#[enc x] ++ lb) W fun e w' => e = .returned (.bool (p x)) ∧ Below W.heap.size W w'
theorem bcell {W w1 : World} (hb : Below W.heap.size W w1) : (∀ b o, b < W.heap.size → w1.cell? ⟨b, o, none⟩ = W.cell? ⟨b, o, none⟩) ∧ (∀ b o, b < W.heap.size → w1.frozen? ⟨b, o, none⟩ = W.frozen? ⟨b, o, none⟩) :=
  ⟨fun b o h => hb.cell (p := ⟨b, o, none⟩) h, fun b o h => hb.frozen (p := ⟨b, o, none⟩) h⟩
theorem any_take_succ {α : Type} (p : α → Bool) (d : α) (l : List α) (k : Nat) (h : (l.take k).any p = false) (hp : p (l.getD k d) = false) : (l.take (k + 1)).any p = false := by
  rw [List.take_add_one, List.any_append, h, Bool.false_or]
  cases hk : l[k]? with
  | none => rfl
  | some x =>
    have : l.getD k d = x := by simp [List.getD, hk]
    rw [this] at hp; simp [hp]
theorem any_of_at {α : Type} (p : α → Bool) (d : α) (l : List α) (k : Nat) (hk : k < l.length) (hp : p (l.getD k d) = true) : l.any p = true := by
  rw [List.any_eq_true]; refine ⟨l.getD k d, ?_, hp⟩; rw [List.getD_eq_getElem?_getD, List.getElem?_eq_getElem hk]; exact List.getElem_mem hk
theorem any_whole {α : Type} (p : α → Bool) (l : List α) (k : Nat) (hk : l.length ≤ k) (h : (l.take k).any p = false) : l.any p = false := by rwa [List.take_of_length_le hk] at h
structure After (w : World) where
  W : World
  hb : Below w.heap.size w W
instance {w : World} : Nonempty (After w) := ⟨⟨w, Below.refl _ _⟩⟩
def clsA (w : World) : World → Prop := fun W => ∃ X : After w, W = X.W
theorem After.cell {w : World} (X : After w) {b o : Nat} {v : Value} (h : w.cell? ⟨b, o, none⟩ = some v) : X.W.cell? ⟨b, o, none⟩ = some v := (X.hb.cell (p := ⟨b, o, none⟩) (World.block_lt_of_cell? w _ h)).trans h
theorem After.cell' {w : World} (X : After w) {a : Addr} {v : Value} (h : w.cell? a = some v) : X.W.cell? a = some v := (X.hb.cell (World.block_lt_of_cell? w _ h)).trans h
theorem Calls.after {P : Program} {f : FuncId} {args : Array Value} {w : World} {X : After w} {v : Value} (h : Calls P f args X.W fun e w' => e = .returned v ∧ Below X.W.heap.size X.W w') :
    Calls P f args X.W fun e w' => e = .returned v ∧ ∃ Y : After w, w' = Y.W := h.mono fun e w' ⟨he, hb⟩ => ⟨he, ⟨w', below_step X.hb hb⟩, rfl⟩
theorem Calls.after_same {P : Program} {f : FuncId} {args : Array Value} {w : World} {X : After w} {v : Value} (h : Calls P f args X.W fun e w' => e = .returned v ∧ X.W = w') :
    Calls P f args X.W fun e w' => e = .returned v ∧ ∃ Y : After w, w' = Y.W := h.mono fun e w' ⟨he, hb⟩ => ⟨he, X, hb.symm⟩
theorem wp_region_after {P : Program} {id : Nat} {Q : Exit → Act → World → Prop} {a : Act} {w : World} {l : List Oper} (hm : P.follows .mixedOrders = true) (hB : Region.lexB .any l.toArray = true)
    (h : wpQuiet P l.toArray (clsA w) (fun a' => ∀ X : After w, Q .normal a' X.W) l a) : (Code.region id l.toArray true).wp P Q a w :=
  wp_region_quiet (C := clsA w) hm hB ⟨⟨_, (below_drew1 (Below.refl w.heap.size w))⟩, rfl⟩ (by
    simp only []
    have : (fun a' => ∀ w', clsA w w' → Q .normal a' w') = (fun a' => ∀ X : After w, Q .normal a' X.W) := by
      funext a'
      exact propext ⟨fun h X => h _ ⟨X, rfl⟩, fun h w' ⟨X, hX⟩ => hX ▸ h X⟩
    rw [this]
    exact h)
end Go.Proofs.YtdmdahafiiggiabGreatDoor.K
end
section
namespace Go.Proofs.YtdmdahafiiggiabGreatDoor.K
open Go.RowKit Go.Shelf Go.Proofs.YtdmdahafiiggiabGreatDoorW.PrintWords Go.Proofs.YtdmdahafiiggiabGreatDoorW.PrintLast Go.Proofs.YtdmdahafiiggiabGreatDoorW.PrintMore
structure KB (M : Nat → Prop) (W W' : World) : Prop where
  os : W'.os = W.os
  tape : W'.tape = W.tape
  output : W'.output = W.output
  size : W.heap.size ≤ W'.heap.size
  block : ∀ k, k < W.heap.size → ¬ M k → W'.heap[k]? = W.heap[k]?
theorem KB.refl (M : Nat → Prop) (W : World) : KB M W W := ⟨rfl, rfl, rfl, Nat.le_refl _, fun _ _ _ => rfl⟩
theorem KB.trans {M : Nat → Prop} {A B C : World} (h : KB M A B) (k : KB M B C) : KB M A C :=
  ⟨k.os.trans h.os, k.tape.trans h.tape, k.output.trans h.output, Nat.le_trans h.size k.size, fun i hi hm => (k.block i (Nat.lt_of_lt_of_le hi h.size) hm).trans (h.block i hi hm)⟩
theorem KB.mono {M M' : Nat → Prop} {A B : World} (h : KB M A B) (hm : ∀ k, k < A.heap.size → M k → M' k) : KB M' A B := ⟨h.os, h.tape, h.output, h.size, fun k hk hn => h.block k hk (fun hM => hn (hm k hk hM))⟩
theorem KB.of_below {M : Nat → Prop} {A B : World} (h : Below A.heap.size A B) : KB M A B := ⟨h.os, h.tape, h.output, h.size, fun k hk _ => h.block k hk⟩
theorem KB.below {M : Nat → Prop} {A B : World} {n : Nat} (h : KB M A B) (hn : n ≤ A.heap.size) (hm : ∀ k, k < n → ¬ M k) : Below n A B := ⟨h.os, h.tape, h.output, h.size, fun k hk => h.block k (by omega) (hm k hk)⟩
theorem KB.grown {M : Nat → Prop} {A B : World} {row : Option Nat} (h : A.grownBy B row) (hm : ∀ k, row = some k → k < A.heap.size → M k) : KB M A B :=
  ⟨h.os, h.tape, h.output, h.size, fun k hk hn => h.block k hk (fun e => hn (hm k e.symm hk))⟩
theorem KB.alloc {M : Nat → Prop} (A : World) (o : Obj) : KB M A (A.alloc o) := KB.of_below ((Below.refl _ A).alloc (Nat.le_refl _) o)
theorem KB.putObj {M : Nat → Prop} (A : World) (l : Nat) (o : Obj) (hm : l < A.heap.size → M l) : KB M A (A.putObj l o) := KB.grown (grownBy_putObj' A l o) (fun k e hk => by cases e; exact hm hk)
theorem KB.setCell {M : Nat → Prop} (A : World) (p : Addr) (v : Value) (hm : M p.block) : KB M A (A.setCell p v) :=
  ⟨rfl, rfl, rfl, by simp [World.setCell], fun k hk hn => Below.heap_setCell _ _ _ _ (fun e => hn (by rw [e]; exact hm))⟩
theorem KB.at {M : Nat → Prop} {A B : World} {k : Nat} {o : Obj} (h : KB M A B) (hk : A.heap[k]? = some o) (hn : ¬ M k) : B.heap[k]? = some o := (h.block k (blk_lt hk) hn).trans hk
def SeqM {α : Type} (F : Fence) (n : Nat) (P : Program) (g : Nat) (lb : Array Value) (own : Nat) (C : Nat → Prop) (At : Nat → World → α → Array Value → Prop) (xs : List α) (w : World) : Prop :=
  ∀ (l : Nat) (M : Nat → Prop) (J : List α → World → Prop) (W : World), KB (fun k => ¬ C k) w W → (∀ k, C k → k < w.heap.size) → (∀ k, M k → k < W.heap.size ∧ ¬ C k) →
    (∀ pre A A', J pre A → W.heap.size ≤ A.heap.size → KB (fun k => W.heap.size ≤ k ∧ k < W.heap.size + own) A A' → J pre A') →
    (∀ pre x v W1, J pre W1 → W.heap.size + own ≤ W1.heap.size → At (W.heap.size + own) W1 x v → (∃ rest, xs = pre ++ x :: rest) →
      YieldAt F (n - 1) P l v W1 fun e W' => e = .returned (.bool true) ∧ J (pre ++ [x]) W' ∧ KB M W1 W') →
    J [] W →
    CallsIn F n P g (#[.func (.yield l) #[] #[]] ++ lb) W fun e W' => (∃ v, e = .returned v) ∧ J xs W' ∧ KB M W W'
def normP (R : World → Prop) : Exit → Act → World → Prop
  | .normal, _, W' => R W'
  | _, _, _ => False
theorem wpIn_rangeM {α : Type} {F : Fence} {n : Nat} {P : Program} {g : Operand} {ps : Array Tmp} {assign body : Code} {Q : Exit → Act → World → Prop} {a : Act} {w : World}
    (hro : F.round = none) (h1 : 1 ≤ n) {gf : Nat} {lb : Array Value} (hg : a.eval g = .func (.func gf) #[] lb) (hFg : F.fn gf) (eg : ∀ args w, (callFunc gf args).run P w = .ok (.enter gf args) w)
    {own : Nat} {C : Nat → Prop} {At : Nat → World → α → Array Value → Prop} {xs : List α} {w0 : World} (hseq : SeqM F (n - 1) P gf lb own C At xs w0)
    (M : Nat → Prop) (hk0 : KB (fun k => ¬ C k) w0 w) (hC : ∀ k, C k → k < w0.heap.size) (hM : ∀ k, M k → k < w.heap.size ∧ ¬ C k)
    (hps : ∀ B W x v, At B W x v → v.size = ps.size)
    (I : List α → World → Prop) (Mid : List α → α → Act → World → Prop)
    (hI : ∀ pre A A', I pre A → w.heap.size ≤ A.heap.size → KB (fun k => w.heap.size ≤ k ∧ k < w.heap.size + 2 + own) A A' → I pre A')
    (hMid : ∀ pre x a A A', Mid pre x a A → w.heap.size ≤ A.heap.size → KB (fun k => w.heap.size ≤ k ∧ k < w.heap.size + 2 + own) A A' → Mid pre x a A')
    (h0 : I [] w)
    (hassign : ∀ (l : Nat) (pre : List α) (x : α) (v : Array Value) (W : World), I pre W → w.heap.size + 2 + own ≤ W.heap.size → At (w.heap.size + 2 + own) W x v → (∃ rest, xs = pre ++ x :: rest) →
      assign.wpIn (F.inRound l) (n - 1 - 1) P (Exit.then (fun a₁ W₁ => KB M W W₁ ∧ Mid pre x a₁ W₁) (fun _ _ _ => False)) { tmps := (ps.zip v).foldl (fun t (p, v) => t.setIfInBounds p v) a.tmps, defers := [] } W)
    (hbody : ∀ (l : Nat) (pre : List α) (x : α) (a₁ : Act) (W : World), Mid pre x a₁ W → w.heap.size + 2 + own ≤ W.heap.size → (∃ rest, xs = pre ++ x :: rest) → body.wpIn (F.inRound l) (n - 1 - 1) P (normP fun W' => KB M W W' ∧ I (pre ++ [x]) W') a₁ W)
    (hdone : ∀ (W : World), I xs W → KB M w W → W.heap[w.heap.size]? = some (.deferred (some [])) → Q .normal { a with defers := { target := .collected w.heap.size, args := #[] } :: a.defers } W) :
    (Code.rangeFunc g ps assign body).wpIn F n P Q a w := by
  refine wpIn_rangeFunc ?_; intro fn hfn; rw [hro]; obtain ⟨rec, hrec⟩ : ∃ rec : LoopState → Option Code → Loop, rec = fun st pe => { state := st, pending := pe, fn, tmps := a.tmps, params := ps, assign, body, defers := w.heap.size } := ⟨_, rfl⟩; obtain ⟨W1, hW1⟩ : ∃ W1, (w.alloc (.deferred (some []))).alloc (.loop (rec .ready none)) = W1 := ⟨_, rfl⟩
  have hL1 : W1.heap[w.heap.size + 1]? = some (.loop (rec .ready none)) := by
    rw [← hW1]; have := World.alloc_heap_new (w.alloc (.deferred (some []))) (.loop (rec .ready none)); rwa [World.size_alloc] at this
  have hK1 : W1.heap[w.heap.size]? = some (.deferred (some [])) := by
    rw [← hW1]; exact (Below.heap_alloc _ _ _ (by simp)).trans (World.alloc_heap_new w _)
  have hs1 : W1.heap.size = w.heap.size + 2 := by rw [← hW1]; simp
  have hk1 : ∀ N : Nat → Prop, KB N w W1 := fun N => by rw [← hW1]; exact (KB.alloc w _).trans (KB.alloc _ _)
  refine ⟨w.heap.size + 1, [{ target := .collected w.heap.size, args := #[] }], W1, { target := .fn (.func gf) lb, args := #[.func (.yield (w.heap.size + 1)) #[] #[]] }, W1, gf,
    #[.func (.yield (w.heap.size + 1)) #[] #[]] ++ lb, W1, ?_, ?_, ?_, ?_, fun _ => h1, ?_⟩
  · rw [← hW1, hrec]; exact run_enterLoop_outer _ _ _ _ _
  · simp only [resolve, hg]; simp [go_sem]
  · intro f' hf'; simp [Target.leads] at hf'; subst hf'; exact hFg
  · simp [invoke, go_sem, eg]
  · refine (hseq (w.heap.size + 1) (fun k => M k ∨ k = w.heap.size + 1)
      (fun pre W => I pre W ∧ W.heap[w.heap.size + 1]? = some (.loop (rec .ready none)) ∧ W.heap[w.heap.size]? = some (.deferred (some [])) ∧ KB M w W)
      W1 (hk0.trans (hk1 _)) hC
      (fun k hk => by
        rcases hk with hk | rfl
        · exact ⟨by have := (hM k hk).1; omega, (hM k hk).2⟩
        · exact ⟨by omega, fun h => by have := hC _ h; have := hk0.size; omega⟩)
      (fun pre A A' hJ hA hk => by
        have h2 : w.heap.size + 1 < A.heap.size := by omega
        refine ⟨hI pre A A' hJ.1 (by omega) (hk.mono fun k _ h => by omega), hk.at hJ.2.1 (by omega), hk.at hJ.2.2.1 (by omega), ?_⟩; have h3 := hJ.2.2.2
        exact ⟨hk.os.trans h3.os, hk.tape.trans h3.tape, hk.output.trans h3.output, Nat.le_trans h3.size hk.size, fun k hlt hm => (hk.block k (by omega) (by omega)).trans (h3.block k hlt hm)⟩)
      ?_ ⟨by rw [← hW1]; exact hI _ _ _ h0 (Nat.le_refl _) ((KB.alloc w _).trans (KB.alloc _ _)), hL1, hK1, hk1 M⟩).mono ?_
    · rintro pre x v W ⟨hi, hl, hk, hkw⟩ hsz hat hrest; rw [hs1] at hsz hat; have hlt : w.heap.size + 1 < W.heap.size := by omega
      have hy := run_yield (P := P) (args := v) hl (by rw [hrec]; exact hps _ _ _ _ hat); rw [hrec] at hy; refine ⟨fn, _, assign, body, hy, roundIn_of_wpIn hfn (wpIn_mono (hassign (w.heap.size + 1) pre x v W hi hsz hat hrest) ?_)⟩; rintro e a₁ W₁ hp
      cases e with
      | normal =>
        obtain ⟨hka, hmid⟩ := hp; have hl2 : W₁.heap[w.heap.size + 1]? = some (.loop (rec .ready none)) := hka.at hl (fun h => by have := (hM _ h).1; omega); have hk2 : W₁.heap[w.heap.size]? = some (.deferred (some [])) := hka.at hk (fun h => by have := (hM _ h).1; omega); have hsz1 : w.heap.size + 2 + own ≤ W₁.heap.size := Nat.le_trans hsz hka.size; refine ⟨_, run_beginRound hl2 (by rw [hrec]), ?_⟩; have hlB : (W₁.putObj (w.heap.size + 1) (.loop { rec .ready none with state := .busy })).heap[w.heap.size + 1]? = some (.loop { rec .ready none with state := .busy }) := World.putObj_heap_same (by omega); have hkB : (W₁.putObj (w.heap.size + 1) (.loop { rec .ready none with state := .busy })).heap[w.heap.size]? = some (.deferred (some [])) := (World.putObj_heap_other (by omega)).trans hk2; refine wpIn_mono (hbody (w.heap.size + 1) pre x a₁ _ (hMid pre x a₁ _ _ hmid (by omega) (KB.putObj _ _ _ fun _ => ⟨by omega, by omega⟩)) (by simp [World.putObj]; omega) hrest) ?_; rintro e a3 W3 hp3
        cases e with
        | normal =>
          obtain ⟨hk3, hi3⟩ := hp3; have hl3 := hk3.at hlB (fun h => by have := (hM _ h).1; omega); have hD3 := hk3.at hkB (fun h => by have := (hM _ h).1; omega); have hs3 : w.heap.size + 2 + own ≤ W3.heap.size := Nat.le_trans (by simp [World.putObj]; omega) hk3.size; have hr := run_endRound (P := P) none hl3
          have hall : ∀ o, KB (fun k => M k ∨ k = w.heap.size + 1) W (W3.putObj (w.heap.size + 1) o) := fun o =>
            ((hka.mono fun k _ h => .inl h).trans ((KB.putObj _ _ _ fun _ => .inr rfl).trans ((hk3.mono fun k _ h => .inl h).trans (KB.putObj _ _ o fun _ => .inr rfl))))
          refine ⟨_, _, hr, rfl, ⟨hI _ _ _ hi3 (by omega) (KB.putObj _ _ _ fun _ => ⟨by omega, by omega⟩), ?_, (World.putObj_heap_other (by omega)).trans hD3, ?_⟩, ?_⟩
          · rw [World.putObj_heap_same (by omega), hrec]; rfl
          · have ha := hall (.loop { rec .ready none with state := if Option.isNone (none : Option Code) then .ready else .done, pending := none }); exact ⟨ha.os.trans hkw.os, ha.tape.trans hkw.tape, ha.output.trans hkw.output, Nat.le_trans hkw.size ha.size, fun k hlt hm => (ha.block k (by omega) (by intro h; rcases h with h | h; exact hm h; omega)).trans (hkw.block k hlt hm)⟩
          · exact hall _
        | _ => exact hp3.elim
      | _ => exact hp.elim
    · rintro e W2 ⟨⟨v, rfl⟩, ⟨hi, hl, hk, hkw⟩, hkb⟩; have hs2 : w.heap.size + 2 ≤ W2.heap.size := by have := hkb.size; omega
      refine ⟨none, _, by have := run_endLoop (P := P) hl (by rw [hrec]; simp); rw [hrec] at this; exact this, hdone _ (hI _ _ _ hi (by omega) (KB.putObj _ _ _ fun _ => ⟨by omega, by omega⟩)) ?_ ((World.putObj_heap_other (by omega)).trans hk)⟩; have ha : KB (fun k => M k ∨ k = w.heap.size + 1) W2 (W2.putObj (w.heap.size + 1) (.loop { rec .ready none with state := .exhausted })) := KB.putObj _ _ _ fun _ => .inr rfl; rw [hrec] at ha; exact ⟨ha.os.trans hkw.os, ha.tape.trans hkw.tape, ha.output.trans hkw.output, Nat.le_trans hkw.size ha.size, fun k hlt hm => (ha.block k (by omega) (by intro h; rcases h with h | h; exact hm h; omega)).trans (hkw.block k hlt hm)⟩
end Go.Proofs.YtdmdahafiiggiabGreatDoor.K
end
section
namespace Go.Proofs.YtdmdahafiiggiabGreatDoor.K
open Go.RowKit Go.Proofs.YtdmdahafiiggiabGreatDoorW.PrintWords Go.Proofs.YtdmdahafiiggiabGreatDoorW.PrintLast Go.Proofs.YtdmdahafiiggiabGreatDoorW.PrintMore
attribute [local go_sem] max2_int min2_int max_two min_two max_three min_three max_four min_four
theorem eqA23 (d : Nat) (w : World) (x0 y0 : Int) (x1 y1 : Int) :
  (Op.equalIn (d + 2) 23 (.agg #[.int .i64 x0, .int .i64 x1]) (.agg #[.int .i64 y0, .int .i64 y1])).run Tryz.prog w = .ok (x0 == y0 && (x1 == y1)) w := by
 refine eqA_of Tryz.underlying23 (by kernel_rfl) ?_; refine eqf_cons (by rfl) (by go_simp; rfl) (by go_simp; rfl) (by go_simp) ?_; exact eqf_last (by rfl) (by go_simp; rfl) (by go_simp; rfl) (by go_simp)
end Go.Proofs.YtdmdahafiiggiabGreatDoor.K
end
section
namespace Go.Proofs.YtdmdahafiiggiabGreatDoor.K
open Go.RowKit Go.Proofs.YtdmdahafiiggiabGreatDoorW.PrintWords Go.Proofs.YtdmdahafiiggiabGreatDoorW.PrintLast Go.Proofs.YtdmdahafiiggiabGreatDoorW.PrintMore
def encY (y : Int) : Value := .agg #[.int .i64 y]
theorem eqSlot (d : Nat) (w : World) (x y : Int) : (Op.equalIn (d + 2) 130 (encY x) (encY y)).run Tryz.prog w = .ok (x == y) w := by
  unfold encY; refine eqA_of Tryz.underlying130 (by kernel_rfl) ?_; exact eqf_last (by rfl) (by go_simp; rfl) (by go_simp; rfl) (by go_simp)
def Slots (w : World) (b : Nat) (T : List Int) : Prop := ∃ es clock, w.heap[b]? = some (.map es clock) ∧ es.toList.map (·.key) = T.map encY ∧ ∀ e ∈ es.toList, e.val = .agg #[]
theorem Slots.below {w w1 : World} {b : Nat} {T : List Int} (h : Slots w b T) (hb : Below w.heap.size w w1) : Slots w1 b T := by
  obtain ⟨es, c, h1, h2, h3⟩ := h; exact ⟨es, c, blk_below h1 hb, h2, h3⟩
theorem Slots.lt {w : World} {b : Nat} {T : List Int} (h : Slots w b T) : b < w.heap.size := by
  obtain ⟨es, c, h1, _⟩ := h; exact blk_lt h1
def setMap (w : World) (b : Nat) (o : Obj) : World := { w with heap := w.heap.setIfInBounds b o }
theorem setMap_same {w : World} {b : Nat} {o : Obj} (h : b < w.heap.size) : (setMap w b o).heap[b]? = some o := by simp [setMap, h]
theorem setMap_other {w : World} {b k : Nat} {o : Obj} (h : k ≠ b) : (setMap w b o).heap[k]? = w.heap[k]? := by simp [setMap, Array.getElem?_setIfInBounds, Ne.symm h]
theorem setMap_size (w : World) (b : Nat) (o : Obj) : (setMap w b o).heap.size = w.heap.size := by simp [setMap]
theorem setMap_below {B : Nat} {w : World} {b : Nat} {o : Obj} (h : B ≤ b) : Below B w (setMap w b o) := ⟨rfl, rfl, rfl, by rw [setMap_size]; exact Nat.le_refl _, fun k hk => setMap_other (by omega)⟩
theorem setMap_grown (w : World) (b : Nat) (o : Obj) : w.grownBy (setMap w b o) (some b) := ⟨rfl, rfl, rfl, by rw [setMap_size]; exact Nat.le_refl _, fun k hk hne => setMap_other (by simpa using hne)⟩
theorem map_erase {α β : Type} (f : α → β) : ∀ (l : List α) (i : Nat), (l.eraseIdx i).map f = (l.map f).eraseIdx i
  | [], _ => rfl
  | _ :: _, 0 => rfl
  | a :: l, i + 1 => by simp [map_erase f l i]
def findT (y : Int) : List Int → Nat → Option Nat
  | [], _ => none
  | x :: T, i => if y == x then some i else findT y T (i + 1)
theorem findAsking_run (w : World) (y : Int) : ∀ (es : List MapEntry) (T : List Int) (i : Nat), es.map (·.key) = T.map encY → (∀ e ∈ es, e.val = .agg #[]) →
    (Instr.findAsking 130 (encY y) es i).run Tryz.prog w = .ok ((findT y T i).map fun j => (j, .agg #[])) w
  | [], [], i, _, _ => rfl
  | [], x :: T, i, h, _ => by cases h
  | e :: es, [], i, h, _ => by cases h
  | e :: es, x :: T, i, h, hv => by
    simp only [List.map_cons, List.cons.injEq] at h; unfold Instr.findAsking findT; have he := eqSlot 9998 w y x; simp only [Sem.run_bind, Op.equal, Op.maxDepth, h.1, he, Result.andThen_ok]
    cases hq : y == x with
    | true => simp [hv e (List.mem_cons_self ..)]
    | false => exact findAsking_run w y es T (i + 1) h.2 (fun e' he' => hv e' (List.mem_cons_of_mem _ he'))
theorem findT_none {y : Int} : ∀ {T : List Int} {i : Nat}, y ∉ T → findT y T i = none
  | [], _, _ => rfl
  | x :: T, i, h => by
    unfold findT; rw [if_neg (by simp; intro e; exact h (e ▸ List.mem_cons_self ..))]; exact findT_none (fun hm => h (List.mem_cons_of_mem _ hm))
theorem findT_some {y : Int} : ∀ {T : List Int} {i : Nat}, y ∈ T → ∃ j, findT y T i = some j
  | x :: T, i, h => by
    unfold findT
    by_cases e : y == x
    · exact ⟨i, if_pos e⟩
    · rw [if_neg e]; exact findT_some ((List.mem_cons.1 h).resolve_left (by simpa using e))
theorem findT_last {y : Int} : ∀ {T : List Int} {i : Nat}, y ∉ T → findT y (T ++ [y]) i = some (i + T.length)
  | [], i, _ => by simp [findT]
  | x :: T, i, h => by
    simp only [List.cons_append]; unfold findT; rw [if_neg (by simp; intro e; exact h (e ▸ List.mem_cons_self ..)), findT_last (fun hm => h (List.mem_cons_of_mem _ hm))]; simp; omega
theorem checkKey_slot (w : World) (b : Bool) (y : Int) : (Instr.checkKey b 10000 130 (encY y)).run Tryz.prog w = .ok () w := by
  cases b <;> kernel_rfl
theorem findNow_slot (u : TypeDesc) (hu : Tryz.prog.underlying 130 = some u) (k : Value) : ∀ (es : List MapEntry), es ≠ [] → Instr.findNow u k es 0 = none
  | e :: es, _ => by
    rw [Tryz.underlying130] at hu; obtain rfl := Option.some.inj hu; simp [Instr.findNow, Instr.sameNow]
theorem findKey_run (w : World) (y : Int) (es : List MapEntry) (T : List Int) (h : es.map (·.key) = T.map encY) (hv : ∀ e ∈ es, e.val = .agg #[]) :
    (Instr.findKey 130 (encY y) es).run Tryz.prog w = .ok ((findT y T 0).map fun j => (j, .agg #[])) w := by
  unfold Instr.findKey; simp only [Sem.run_bind, run_underlying Tryz.underlying130, Result.andThen_ok]
  cases es with
  | nil =>
    cases T with
    | nil => rfl
    | cons x T => cases h
  | cons e es =>
    rw [findNow_slot _ Tryz.underlying130 _ _ (by simp)]; exact findAsking_run w y (e :: es) T 0 h hv
theorem lookup_slot {w : World} {b : Nat} {T : List Int} (h : Slots w b T) (y : Int) :
    (Instr.lookup 124 (.map (some b)) (.agg #[.int .i64 y]) true).run Tryz.prog w = .ok (.tuple #[.agg #[], .bool (decide (y ∈ T))]) w := by
  obtain ⟨es, c, h1, h2, h3⟩ := h; have hk := fun e => checkKey_slot w e y; have hf := findKey_run w y es.toList T h2 h3; unfold encY at hk hf; have hz : (zeroValue 127).run Tryz.prog w = .ok (.agg #[]) w := by kernel_rfl
  unfold Instr.lookup; simp only [Sem.run_bind, run_underlying Tryz.underlying124, Result.andThen_ok, getObj, Sem.run, h1, hk, hf, Sem.run_pure]
  by_cases hm : y ∈ T
  · obtain ⟨j, hj⟩ := findT_some (i := 0) hm; rw [hj]; simp [hm]
  · rw [findT_none hm]; simp [hm, hz]
theorem update_slot {w : World} {b : Nat} {T : List Int} (h : Slots w b T) (y : Int) (hy : y ∉ T) :
    ∃ o, (Instr.mapUpdate 124 (.map (some b)) (.agg #[.int .i64 y]) (.agg #[])).run Tryz.prog w = .ok () (setMap w b o) ∧ Slots (setMap w b o) b (T ++ [y]) := by
  obtain ⟨es, c, h1, h2, h3⟩ := h; have hk := fun e => checkKey_slot w e y; have hf := findKey_run w y es.toList T h2 h3; rw [findT_none hy] at hf; unfold encY at hk hf; refine ⟨Obj.map (es.push { key := .agg #[.int .i64 y], val := .agg #[], born := c }) (c + 1), ?_, ?_⟩
  · unfold Instr.mapUpdate; simp only [Sem.run_bind, run_underlying Tryz.underlying124, Result.andThen_ok, getObj, Sem.run, h1, hk, hf, Sem.run_pure]; simp [setObj, Sem.run, h1, setMap]
  · refine ⟨_, _, setMap_same (blk_lt h1), ?_, ?_⟩
    · simp [h2, encY]
    · intro e he; simp at he
      rcases he with he | rfl
      · exact h3 e (by simpa using he)
      · rfl
theorem delete_slot {w : World} {b : Nat} {T : List Int} (y : Int) (h : Slots w b (T ++ [y])) (hy : y ∉ T) (ty : TypeId) :
    ∃ o, (Builtin.delete_ #[124, 130] ty #[.map (some b), .agg #[.int .i64 y]]).run Tryz.prog w = .ok (.tuple #[]) (setMap w b o) ∧ Slots (setMap w b o) b T := by
  obtain ⟨es, c, h1, h2, h3⟩ := h; have hk := fun e => checkKey_slot w e y; have hf := findKey_run w y es.toList (T ++ [y]) h2 h3; rw [findT_last hy] at hf; unfold encY at hk hf; refine ⟨Obj.map (es.eraseIdxIfInBounds (0 + T.length)) c, ?_, ?_⟩
  · unfold Builtin.delete_; simp only [List.getElem?_toArray, List.getElem?_cons_zero, List.getElem?_cons_succ, Sem.run_bind, run_underlying Tryz.underlying124, Result.andThen_ok, getObj, Sem.run, h1, hk, hf, Sem.run_pure]; simp [setObj, Sem.run, h1, setMap]
  · have hl : es.toList.length = T.length + 1 := by have := congrArg List.length h2; simpa using this
    have e1 : (es.eraseIdxIfInBounds (0 + T.length)).toList = es.toList.eraseIdx T.length := by
      simp [Array.eraseIdxIfInBounds, show T.length < es.size by simpa using (by omega : T.length < es.toList.length)]
    refine ⟨_, _, setMap_same (blk_lt h1), ?_, ?_⟩
    · rw [e1, map_erase, h2, List.map_append, List.map_cons, List.map_nil, List.eraseIdx_append_of_length_le (by simp)]; simp
    · intro e he; rw [e1] at he; exact h3 e (List.mem_of_mem_eraseIdx he)
end Go.Proofs.YtdmdahafiiggiabGreatDoor.K
end
section
namespace Go.Proofs.YtdmdahafiiggiabGreatDoor.K
open Go.RowKit Go.Proofs.YtdmdahafiiggiabGreatDoorW.PrintWords Go.Proofs.YtdmdahafiiggiabGreatDoorW.PrintLast Go.Proofs.YtdmdahafiiggiabGreatDoorW.PrintMore
theorem own_empty (W : World) (e : TypeId) : Kd.R (Kd.int .i64) e (W.alloc (.cells #[] e)) W.heap.size (fun _ => True) (.slice (some ⟨W.heap.size, 0, none⟩) 0 0) [] := by
  refine ⟨fun _ _ => trivial, [], ?_, Reps.none _ _⟩; exact World.ownsRow_lit W #[] 0 (Nat.le_refl _) (by unfold maxLen; omega) rfl
set_option maxRecDepth 100000 in
theorem clone_any (A : Option Addr) (c : Nat) (zs : List Int) (w : World) (hC : Kd.C (Kd.int .i64) w A zs.length zs) (hl : zs.length ≤ 1000000) :
    Calls Tryz.prog 92 #[.slice A zs.length c] w fun e w' => ∃ v, e = .returned v ∧ Aside0 (Kd.R (Kd.int .i64) 3 w' w.heap.size (fun _ => True) v zs) ∧ Below w.heap.size w w' := by
  have hnil := fun W => Lib.run_eql_slice_nil (P := Tryz.prog) W 25 3 A zs.length c 0 0 Tryz.underlying25; have HC := Aside0.mk hC; clear hC
  cases A with
  | none =>
    go_enter Tryz.func92, Tryz.ntmps92
    go_wp2; go_ret
    have hz : zs = [] := by
      rcases zs with _ | ⟨x, l⟩
      · rfl
      · obtain ⟨ad, h, _⟩ := Kd.at_int HC.out 0 (by omega) (by simp)
        cases h
    exact ⟨_, rfl, ⟨by rw [hz]; exact Kd.R_nil _ _ _ _ _⟩, Below.refl _ _⟩
  | some a =>
    go_enter Tryz.func92, Tryz.ntmps92
    have HW : Aside0 (Below w.heap.size w (w.alloc (.cells #[] 3))) := ⟨(Below.refl _ _).alloc (Nat.le_refl _) _⟩; have HL := Aside0.mk hl; clear hl
    go_wp2_with ((with_reducible refine gate_builtin (b := .append) (xs := #[.tmp 5, .tmp 6]) rfl ?_); at_builtin; refine Kd.R_append_rows (Kd.int .i64) (w0 := w.alloc (.cells #[] 3)) w.heap.size rfl (.tmp 5) (.tmp 6) 25 3 (.int .i64 0) 8 rfl Tryz.underlying25 info3 rfl (by decide) (by omega) (.slice (some ⟨w.heap.size, 0, none⟩) 0 0) [] zs (some a) zs.length c (fun _ => True) (fun _ => False) rfl rfl (own_empty w 3) (Kd.C_below HC.out HW.out) (fun x cs h => h) (fun _ hk => hk.elim) (fun _ _ => trivial) (Below.refl _ _) (by simp) (by have := HL.out; simp; omega) ?_; intro v1 w1 ho hbA hgA hatA)
    go_ret; exact ⟨_, rfl, ⟨ho⟩, HW.out.trans hbA⟩
theorem idxFirst (A : Option Addr) (c : Nat) (l : List Int) (g : Nat) (lb : Array Value) (p : Int → Bool) (w : World) (hr : Kd.C (Kd.int .i64) w A l.length l) (hl : l.length ≤ 9223372036854775807)
    (eg : ∀ args w, (callFunc g args).run Tryz.prog w = .ok (.enter g args) w) (hp : PredB g lb (Value.int .i64) p w) :
    Calls Tryz.prog 107 #[.slice A l.length c, .func (.func g) #[] lb] w fun e w' => ∃ i : Int, e = .returned (.int .i64 i) ∧ Aside0 ((i = -1 ∧ l.any p = false) ∨ ∃ k : Nat, i = (k : Int) ∧ k < l.length ∧ (l.take k).any p = false ∧ p (rd l k) = true) ∧ Below w.heap.size w w' := by
  have HR := Aside0.mk hr; clear hr
  go_enter Tryz.func107, Tryz.ntmps107
  go_wp2
  go_loopg [5, 8] l.length (fun gg _ s8 wr => ∃ kk : Nat, kk ≤ l.length ∧ l.length - kk ≤ gg ∧ s8 = .int .i64 kk ∧ Aside0 (Below w.heap.size w wr) ∧ Aside0 ((l.take kk).any p = false))
  case atStart => exact ⟨0, Nat.zero_le _, by omega, rfl, ⟨Below.refl _ w⟩, ⟨by simp⟩⟩
  case round =>
    obtain ⟨kk, hkk, hg, rfl, BW, AA⟩ := hrel
    by_cases hlt : kk < l.length
    · have hltz : (kk : Int) < (l.length : Int) := by omega
      obtain ⟨ad, e1, hx0⟩ := Kd.at_int HR.out (kk : Int) (by omega) hltz
      cases e1
      replace hx0 := (BW.out.cell (World.block_lt_of_cell? w _ hx0)).trans hx0; rw [Int.toNat_natCast] at hx0; have hcall := hp wr (rd l kk) BW.out; generalize hy : rd l kk = y at hx0 hcall; have HY := Aside0.mk hy; clear hy hp
      cases hq : p y with
      | true =>
        rw [hq] at hcall; have HQ := Aside0.mk hq; clear hq
        go_wp2_with fail
        refine hcall.mono ?_; rintro e w' ⟨rfl, hb'⟩; replace hb' := below_then BW.out BW.out.size hb'; go_wp2; go_ret; exact ⟨_, rfl, ⟨.inr ⟨kk, rfl, hlt, AA.out, by rw [HY.out]; exact HQ.out⟩⟩, hb'⟩
      | false =>
        rw [hq] at hcall; have HQ := Aside0.mk hq; clear hq
        go_wp2_with fail
        refine hcall.mono ?_; rintro e w' ⟨rfl, hb'⟩; replace hb' := below_then BW.out BW.out.size hb'; go_wp2
        go_roundg (l.length - (kk + 1))
        case measure => omega
        case rel => exact ⟨kk + 1, by omega, by omega, by go_num, ⟨hb'⟩, ⟨any_take_succ p 0 l kk AA.out (by have := HY.out; simp only [rd, Int.toNat_natCast] at this; rw [this]; exact HQ.out)⟩⟩
    · have hltz : ¬ (kk : Int) < (l.length : Int) := by omega
      go_wp2; go_ret; exact ⟨_, rfl, ⟨.inl ⟨rfl, by simpa using any_whole p l kk (by omega) AA.out⟩⟩, BW.out⟩
theorem own_form {w : World} {base : Nat} {v : Value} {xs : List Int} (h : Kd.R (Kd.int .i64) 3 w base (fun _ => True) v xs) (h0 : 0 < xs.length) : ∃ g c, v = .slice (some ⟨g, 0, none⟩) xs.length c ∧ base ≤ g ∧ g < w.heap.size ∧ xs.length ≤ c := by
  have ho := Kd.own_of_R h; obtain ⟨g, c, e, hb, hg⟩ := ho.form h0; obtain ⟨A, c', e', hc, _⟩ := Kd.R_reads h; subst e
  cases e'
  exact ⟨g, c, rfl, hb, hg, hc⟩
def delL (p : Int → Bool) (zs : List Int) (j : Nat) : List Int := (zs.take j).filter fun x => !p x
theorem delL_succ (p : Int → Bool) (zs : List Int) {j : Nat} (hj : j < zs.length) : delL p zs (j + 1) = delL p zs j ++ (if p (rd zs j) = true then [] else [rd zs j]) := by
  unfold delL; rw [List.take_add_one, List.filter_append, List.getElem?_eq_getElem hj]; have : rd zs (j : Int) = zs[j] := by simp [rd, List.getD, List.getElem?_eq_getElem hj]
  rw [this]
  cases hp : p zs[j] <;> simp [hp]
theorem delL_len (p : Int → Bool) (zs : List Int) (j : Nat) : (delL p zs j).length ≤ j := by
  unfold delL; exact Nat.le_trans (List.length_filter_le _ _) (List.length_take_le _ _)
def Mid (p : Int → Bool) (zs L : List Int) (j : Nat) : Prop := L.length = zs.length ∧ L.take (delL p zs j).length = delL p zs j ∧ L.drop j = zs.drop j
theorem Mid.keep {p : Int → Bool} {zs L : List Int} {j : Nat} (h : Mid p zs L j) (hj : j < zs.length) (hp : p (rd zs j) = true) : Mid p zs L (j + 1) := by
  obtain ⟨h1, h2, h3⟩ := h; have e : delL p zs (j + 1) = delL p zs j := by rw [delL_succ p zs hj, if_pos hp, List.append_nil]
  refine ⟨h1, by rw [e]; exact h2, ?_⟩; have := congrArg (List.drop 1) h3
  rwa [List.drop_drop, List.drop_drop] at this
theorem Mid.put {p : Int → Bool} {zs L : List Int} {j : Nat} (h : Mid p zs L j) (hj : j < zs.length) (hp : p (rd zs j) = false) : Mid p zs (L.set (delL p zs j).length (rd zs j)) (j + 1) := by
  obtain ⟨h1, h2, h3⟩ := h; have hl := delL_len p zs j; have e : delL p zs (j + 1) = delL p zs j ++ [rd zs j] := by rw [delL_succ p zs hj, if_neg (by rw [hp]; decide)]
  refine ⟨by rw [List.length_set]; exact h1, ?_, ?_⟩
  · rw [e, List.length_append, List.length_singleton]; rw [List.take_add_one, List.take_set_of_le (Nat.le_refl _), h2]; simp [List.getElem?_set, show (delL p zs j).length < L.length by omega]
  · rw [List.drop_set_of_lt (by omega)]; have := congrArg (List.drop 1) h3
    rwa [List.drop_drop, List.drop_drop] at this
theorem Mid.at_ {p : Int → Bool} {zs L : List Int} {j : Nat} (h : Mid p zs L j) (hj : j < zs.length) : rd L j = rd zs j := by
  have h3 := congrArg (fun l => l[0]?) h.2.2; simp only [List.getElem?_drop, Nat.add_zero] at h3; simp [rd, List.getD, h3]
theorem Mid.start {p : Int → Bool} {zs : List Int} {k : Nat} (hk : k < zs.length) (h1 : (zs.take k).any p = false) (h2 : p (rd zs k) = true) : Mid p zs zs (k + 1) ∧ (delL p zs (k + 1)).length = k := by
  have hd : delL p zs k = zs.take k := by
    unfold delL; rw [List.filter_eq_self]; intro x hx; rw [List.any_eq_false] at h1
    simpa using h1 x hx
  have e : delL p zs (k + 1) = zs.take k := by rw [delL_succ p zs hk, if_pos h2, List.append_nil, hd]
  have hl : (zs.take k).length = k := by rw [List.length_take]; omega
  exact ⟨⟨rfl, by rw [e, hl], rfl⟩, by rw [e, hl]⟩
theorem own_past {w : World} {base g m c : Nat} {e : TypeId} {xs : List Value} (h : w.ownsRow base e 1 (.slice (some ⟨g, 0, none⟩) m c) m xs) : ∀ (vs : List Value) (o : Nat), m ≤ o → ∀ (w1 : World), w1.ownsRow base e 1 (.slice (some ⟨g, 0, none⟩) m c) m xs → (w1.setCells g o vs).ownsRow base e 1 (.slice (some ⟨g, 0, none⟩) m c) m xs
  | [], o, _, w1, h1 => h1
  | v :: vs, o, ho, w1, h1 => by
    refine own_past h vs (o + 1) (by omega) _ ?_; obtain ⟨hl, h2⟩ := h1; refine ⟨hl, .inr ?_⟩
    rcases h2 with ⟨h2, _⟩ | ⟨g', cap, cur, e1, h3, h4, h5, h6, h7, h8⟩
    · cases h2
    · cases e1
      refine ⟨g, c, cur.setIfInBounds o v, rfl, h3, blk_set h4 o v, h5, h6, by simpa using h7, ?_⟩; rw [Array.toList_setIfInBounds, List.take_set_of_le (by omega)]; exact h8
theorem R_past {w : World} {base g c : Nat} {xs : List Int} (h : Kd.R (Kd.int .i64) 3 w base (fun _ => True) (.slice (some ⟨g, 0, none⟩) xs.length c) xs) (vs : List Value) (o : Nat) (ho : xs.length ≤ o) : Kd.R (Kd.int .i64) 3 (w.setCells g o vs) base (fun _ => True) (.slice (some ⟨g, 0, none⟩) xs.length c) xs :=
  Kd.R_of_own (own_past (Kd.own_of_R h) vs o ho w (Kd.own_of_R h)) (fun _ _ => trivial)
theorem below_setCells_k {B g : Nat} (hg : B ≤ g) : ∀ (vs : List Value) (o : Nat) (w : World), Below B w (w.setCells g o vs)
  | [], _, w => Below.refl _ _
  | v :: vs, o, w => ((Below.refl B w).setCell (p := ⟨g, o, none⟩) hg v).trans (below_setCells_k hg vs (o + 1) _)
set_option maxRecDepth 100000 in
set_option maxHeartbeats 1000000 in
theorem delFunc_any (v : Value) (zs : List Int) (g : Nat) (lb : Array Value) (p : Int → Bool) (base : Nat) (w : World) (hR : Kd.R (Kd.int .i64) 3 w base (fun _ => True) v zs) (hl : zs.length ≤ 1000000) (hbase : base ≤ w.heap.size)
    (eg : ∀ args w, (callFunc g args).run Tryz.prog w = .ok (.enter g args) w) (hp : ∀ W x, Below base w W → Calls Tryz.prog g (#[.int .i64 x] ++ lb) W fun e w' => e = .returned (.bool (p x)) ∧ Below W.heap.size W w') :
    Calls Tryz.prog 91 #[v, .func (.func g) #[] lb] w fun e w' => ∃ v', e = .returned v' ∧ Aside0 (Kd.R (Kd.int .i64) 3 w' base (fun _ => True) v' (zs.filter fun x => !p x)) ∧ Below base w w' := by
  obtain ⟨A, c, rfl, hc, hC⟩ := Kd.R_reads hR; have hI := idxFirst A c zs g lb p w hC (by omega) eg (fun W x hW => hp W x (hW.mono hbase)); have HI := Aside0.mk hI; have HR := Aside0.mk hR; have HP := Aside0.mk hp; have HL := Aside0.mk hl; have HBS := Aside0.mk hbase; clear hI hR hp hC
  go_enter Tryz.func91, Tryz.ntmps91
  go_wp2_with fail
  refine HI.out.mono ?_; rintro e w1 ⟨i, rfl, Hi, hb1⟩; have HB1 := Aside0.mk (hb1.mono hbase); have HR1 := Aside0.mk (Kd.R_below HR.out hb1); clear hb1
  rcases Hi.out with ⟨hi, hn⟩ | ⟨k, hi, hk, hn, hy⟩
  · subst hi; have HN := Aside0.mk hn; clear hn; go_wp2; go_ret; refine ⟨_, rfl, ⟨?_⟩, HB1.out⟩
    have : (zs.filter fun x => !p x) = zs := by
      rw [List.filter_eq_self]; intro x hx; have := HN.out; rw [List.any_eq_false] at this
      simpa using this x hx
    rw [this]; exact HR1.out
  · subst hi; obtain ⟨gb, c', ev, hgb, hgl, hcc⟩ := own_form HR1.out (by omega)
    cases ev
    have HM := Aside0.mk (Mid.start hk hn hy); have HK := Aside0.mk hk; have HG := Aside0.mk (And.intro hgb (And.intro hgl hcc)); have k0 : ((k : Int) == -1) = false := by rw [beq_eq_false_iff_ne]; omega
    have k1 : ¬ ((k : Int) = -1) := by omega
    clear hk hn hy hgb hgl hcc Hi HR HI hc; obtain ⟨i3, hi3, hz30, hz31, hz32⟩ := info_parts info3; have hk1 : wrap64 ((k : Int) + 1) = ((k + 1 : Nat) : Int) := by rw [IntWalk.wrap64_in _ (by have := HK.out; have := HL.out; omega)]; simp
    go_upto_block 0 with (fail)
    rw [hk1]; clear hk1 k0 k1; go_wp2
    go_loopg [5, 6] (zs.length - (k + 1)) (fun kq v5 v6 w' => ∃ (j m : Nat) (L : List Int), v5 = .int .i64 (m : Int) ∧ v6 = .int .i64 (j : Int) ∧ Aside0 (j + kq = zs.length) ∧ Aside0 (m = (delL p zs j).length ∧ m < j) ∧ Aside0 (Mid p zs L j) ∧ Aside0 (Kd.R (Kd.int .i64) 3 w' base (fun _ => True) (.slice (some ⟨gb, 0, none⟩) L.length c) L ∧ Below base w1 w'))
    case atStart => exact ⟨k + 1, k, zs, rfl, rfl, ⟨by have := HK.out; omega⟩, ⟨HM.out.2.symm, by omega⟩, ⟨HM.out.1⟩, ⟨HR1.out, Below.refl _ _⟩⟩
    case round =>
      obtain ⟨j, m, L, rfl, rfl, HJ, HMM, HMi, HRL⟩ := hrel
      cases gk with
      | zero =>
        have c3 : decide ((j : Int) < (zs.length : Int)) = false := decide_eq_false (by have := HJ.out; omega); have c4 : ¬ (j < zs.length) := by have := HJ.out; omega
        have hje : j = zs.length := by have := HJ.out; omega
        have HLE : Aside0 (L.length = zs.length ∧ L.take m = zs.filter (fun x => !p x) ∧ m < zs.length) := ⟨HMi.out.1, by rw [HMM.out.1, HMi.out.2.1]; unfold delL; rw [hje, List.take_length], by have := HMM.out.2; omega⟩; have hmz : (m : Int) < (zs.length : Int) := by have := HLE.out.2.2; omega
        have hcut : ∀ W : World, (Instr.slice 25 (.slice (some ⟨gb, 0, none⟩) zs.length c) (some (.int .i64 (m : Int))) none none).run Tryz.prog W = .ok (.slice (some ⟨gb, m, none⟩) (zs.length - m) (c - m)) W := fun W => by
          have := cut_from (P := Tryz.prog) 25 3 .i64 Tryz.underlying25 hi3 1 hz31 (some ⟨gb, 0, none⟩) zs.length c (m : Int) (by omega) (by omega) W; rw [this, Int.toNat_natCast, if_neg (by have := HG.out.2.2; omega)]; simp [add_plain]
        have hcut2 : ∀ W : World, (Instr.slice 25 (.slice (some ⟨gb, 0, none⟩) zs.length c) none (some (.int .i64 (m : Int))) none).run Tryz.prog W = .ok (.slice (some ⟨gb, 0, none⟩) m c) W := fun W => by
          have := cut_to (P := Tryz.prog) 25 3 .i64 Tryz.underlying25 hi3 (some ⟨gb, 0, none⟩) zs.length c (m : Int) (by omega) (by omega) HG.out.2.2 W; rw [this, Int.toNat_natCast]
        have hclr : ∀ ty, (Builtin.clear_ #[25] ty #[.slice (some ⟨gb, m, none⟩) (zs.length - m) (c - m)]).run Tryz.prog wr = .ok (.tuple #[]) (wr.setCells gb m (List.replicate (zs.length - m) (.int .i64 0))) := fun ty => by
          refine Lib.run_clear_slice wr 25 3 ty (.int .i64 0) Tryz.underlying25 (fun _ => by kernel_rfl) rfl rfl gb m _ _ (by omega) (fun q hq => ?_) (fun q hq => ?_)
          · have := (Kd.R_cell (0 : Int) HRL.out.1 ((m + q : Nat) : Int) (by omega) (by rw [HLE.out.1]; omega)).1; rw [Int.toNat_natCast] at this; rw [this]; rfl
          · have := (Kd.R_cell (0 : Int) HRL.out.1 ((m + q : Nat) : Int) (by omega) (by rw [HLE.out.1]; omega)).2
            rwa [Int.toNat_natCast] at this
        clear hje hmz; go_wp2; go_ret; have h1 := Kd.R_take HRL.out.1 (m := m) (by have := HLE.out; omega); have hF : (zs.filter fun x => !p x).length = m := by rw [← HLE.out.2.1, List.length_take]; have := HLE.out; omega
        rw [HLE.out.2.1] at h1; obtain ⟨F, hFe⟩ : ∃ F, (zs.filter fun x => !p x) = F := ⟨_, rfl⟩; rw [hFe] at h1 hF ⊢; subst hF; exact ⟨_, rfl, ⟨R_past h1 _ _ (Nat.le_refl _)⟩, HB1.out.trans (HRL.out.2.trans (below_setCells_k HG.out.1 _ _ _))⟩
      | succ k2 =>
        have c3 : decide ((j : Int) < (zs.length : Int)) = true := decide_eq_true (by have := HJ.out; omega); have p1 : (0 : Int) ≤ (j : Int) := by omega
        have p2 : (j : Int) < (zs.length : Int) := by have := HJ.out; omega
        obtain ⟨hcell, hfz⟩ := Kd.R_cell (0 : Int) HRL.out.1 (j : Int) p1 (by rw [HMi.out.1]; exact p2); rw [Int.toNat_natCast] at hcell; obtain ⟨y, hy⟩ : ∃ y, rd zs (j : Int) = y := ⟨_, rfl⟩; have hyy : rdOf (0 : Int) L (j : Int) = y := by rw [← hy]; exact HMi.out.at_ (by omega)
        rw [hyy] at hcell; have HY := Aside0.mk hy; have hcall := HP.out wr y (HB1.out.trans HRL.out.2); clear hy hyy hfz; have q1 := eq_true p1; have q2 := eq_true p2
        cases hq : p y with
        | true =>
          rw [hq] at hcall; have HQ := Aside0.mk hq; clear hq
          go_wp2_with fail
          refine hcall.mono ?_; rintro e w3 ⟨rfl, hb3⟩; have HB3 := Aside0.mk hb3; have HSZ : Aside0 (base ≤ wr.heap.size) := ⟨Nat.le_trans HBS.out (Nat.le_trans HB1.out.size HRL.out.2.size)⟩; clear hb3; go_wp2
          go_roundg k2
          case measure => omega
          case rel => exact ⟨j + 1, m, L, rfl, (by rw [Int.natCast_add, Int.natCast_one]), ⟨by have := HJ.out; omega⟩, ⟨by rw [HMM.out.1, delL_succ p zs (by have := HJ.out; omega), if_pos (by rw [HY.out]; exact HQ.out), List.append_nil], by have := HMM.out.2; omega⟩, ⟨HMi.out.keep (by have := HJ.out; omega) (by rw [HY.out]; exact HQ.out)⟩, ⟨Kd.R_below HRL.out.1 HB3.out, HRL.out.2.trans (HB3.out.mono HSZ.out)⟩⟩
        | false =>
          rw [hq] at hcall; have HQ := Aside0.mk hq; clear hq
          go_wp2_with fail
          refine hcall.mono ?_; rintro e w3 ⟨rfl, hb3⟩; have HR3 := Aside0.mk (Kd.R_below HRL.out.1 hb3); have HB3 := Aside0.mk hb3; have HSZ : Aside0 (base ≤ wr.heap.size) := ⟨Nat.le_trans HBS.out (Nat.le_trans HB1.out.size HRL.out.2.size)⟩; clear hb3 hcell; have hmz : (m : Int) < (zs.length : Int) := by have := HMM.out.2; omega
          obtain ⟨zc, zf⟩ := Kd.R_cell (0 : Int) HR3.out (m : Int) (by omega) (by rw [HMi.out.1]; exact hmz); rw [Int.toNat_natCast] at zc zf; have q4 := eq_true hmz; have q5 : ((0 : Int) ≤ (m : Int)) = True := eq_true (by omega); go_wp2
          go_roundg k2
          case measure => omega
          case rel =>
            have hd : delL p zs (j + 1) = delL p zs j ++ [y] := by rw [delL_succ p zs (by have := HJ.out; omega), if_neg (by rw [HY.out, HQ.out]; decide), HY.out]
            have hmid := HMi.out.put (by have := HJ.out; omega) (by rw [HY.out]; exact HQ.out); rw [← HMM.out.1, HY.out] at hmid; have hput := (Kd.R_put HR3.out (m : Int) y).1; rw [Int.toNat_natCast] at hput; exact ⟨j + 1, m + 1, L.set m y, (by rw [Int.natCast_add, Int.natCast_one]), (by rw [Int.natCast_add, Int.natCast_one]), ⟨by have := HJ.out; omega⟩, ⟨by rw [hd, List.length_append, HMM.out.1]; rfl, by have := HMM.out.2; omega⟩, ⟨hmid⟩, ⟨by rw [List.length_set]; exact hput, (HRL.out.2.trans (HB3.out.mono HSZ.out)).setCell HG.out.1 _⟩⟩
end Go.Proofs.YtdmdahafiiggiabGreatDoor.K
end
section
namespace Go.Proofs.YtdmdahafiiggiabGreatDoor.K
open Go.RowKit Go.Proofs.YtdmdahafiiggiabGreatDoorW.PrintWords Go.Proofs.YtdmdahafiiggiabGreatDoorW.PrintLast Go.Proofs.YtdmdahafiiggiabGreatDoorW.PrintMore
theorem idxFuncInt (A : Option Addr) (c : Nat) (l : List Int) (g : Nat) (lb : Array Value) (p : Int → Bool) (w : World) (hr : Kd.C (Kd.int .i64) w A l.length l) (hc : l.length ≤ c) (hl : l.length ≤ 9223372036854775807)
    (eg : ∀ args w, (callFunc g args).run Tryz.prog w = .ok (.enter g args) w) (hp : PredB g lb (Value.int .i64) p w) :
    Calls Tryz.prog 107 #[.slice A l.length c, .func (.func g) #[] lb] w fun e w' => ∃ i, e = .returned (.int .i64 i) ∧ Aside0 (decide (0 ≤ i) = l.any p) ∧ Below w.heap.size w w' := by
  have HR := Aside0.mk hr; have HC := Aside0.mk hc; clear hr hc
  go_enter Tryz.func107, Tryz.ntmps107
  go_wp2
  go_loopg [5, 8] l.length (fun gg _ s8 wr => ∃ kk : Nat, kk ≤ l.length ∧ l.length - kk ≤ gg ∧ s8 = .int .i64 kk ∧ Aside0 (Below w.heap.size w wr) ∧ Aside0 ((l.take kk).any p = false))
  case atStart => exact ⟨0, Nat.zero_le _, by omega, rfl, ⟨Below.refl _ w⟩, ⟨by simp⟩⟩
  case round =>
    obtain ⟨kk, hkk, hg, rfl, BW, AA⟩ := hrel
    by_cases hlt : kk < l.length
    · have hltz : (kk : Int) < (l.length : Int) := by omega
      obtain ⟨ad, e1, hx0⟩ := Kd.at_int HR.out (kk : Int) (by omega) hltz
      cases e1
      replace hx0 := (BW.out.cell (World.block_lt_of_cell? w _ hx0)).trans hx0; rw [Int.toNat_natCast] at hx0; have hcall := hp wr (rd l kk) BW.out; generalize hy : rd l kk = y at hx0 hcall; have HY := Aside0.mk hy; clear hy hp
      cases hq : p y with
      | true =>
        rw [hq] at hcall; have HQ := Aside0.mk hq; clear hq
        go_wp2_with fail
        refine hcall.mono ?_; rintro e w' ⟨rfl, hb'⟩; replace hb' := below_then BW.out BW.out.size hb'; go_wp2; go_ret; exact ⟨_, rfl, ⟨by rw [any_of_at p 0 l kk hlt (by have := HY.out; simp only [rd, Int.toNat_natCast] at this; rw [this]; exact HQ.out)]; simp⟩, hb'⟩
      | false =>
        rw [hq] at hcall; have HQ := Aside0.mk hq; clear hq
        go_wp2_with fail
        refine hcall.mono ?_; rintro e w' ⟨rfl, hb'⟩; replace hb' := below_then BW.out BW.out.size hb'; go_wp2
        go_roundg (l.length - (kk + 1))
        case measure => omega
        case rel => exact ⟨kk + 1, by omega, by omega, by go_num, ⟨hb'⟩, ⟨any_take_succ p 0 l kk AA.out (by have := HY.out; simp only [rd, Int.toNat_natCast] at this; rw [this]; exact HQ.out)⟩⟩
    · have hltz : ¬ (kk : Int) < (l.length : Int) := by omega
      go_wp2; go_ret; exact ⟨_, rfl, ⟨by rw [any_whole p l kk (by omega) AA.out]; rfl⟩, BW.out⟩
theorem contFuncInt (A : Option Addr) (c : Nat) (l : List Int) (g : Nat) (lb : Array Value) (p : Int → Bool) (w : World) (hr : Kd.C (Kd.int .i64) w A l.length l) (hc : l.length ≤ c) (hl : l.length ≤ 9223372036854775807)
    (eg : ∀ args w, (callFunc g args).run Tryz.prog w = .ok (.enter g args) w) (hp : PredB g lb (Value.int .i64) p w) :
    Calls Tryz.prog 60 #[.slice A l.length c, .func (.func g) #[] lb] w fun e w' => e = .returned (.bool (l.any p)) ∧ Below w.heap.size w w' := by
  have hi := idxFuncInt A c l g lb p w hr hc hl eg hp; clear hr hp
  go_enter Tryz.func60, Tryz.ntmps60
  go_wp2_with fail
  refine hi.mono ?_; rintro e w' ⟨i, rfl, hd, hb'⟩; go_wp2; go_ret; exact ⟨by rw [← hd.out]; rfl, hb'⟩
theorem idxFuncStretch (A : Option Addr) (c : Nat) (l : List S66) (g : Nat) (lb : Array Value) (p : S66 → Bool) (w : World) (hr : Kd.C k66 w A l.length l) (hc : l.length ≤ c) (hl : l.length ≤ 9223372036854775807)
    (eg : ∀ args w, (callFunc g args).run Tryz.prog w = .ok (.enter g args) w) (hp : PredB g lb (fun x => .agg #[.int .i64 x.f0, .int .i64 x.f1, .int .i64 x.f2, .int .i64 x.f3.f0, .int .i64 x.f3.f1]) p w) :
    Calls Tryz.prog 131 #[.slice A l.length c, .func (.func g) #[] lb] w fun e w' => ∃ i, e = .returned (.int .i64 i) ∧ Aside0 (decide (0 ≤ i) = l.any p) ∧ Below w.heap.size w w' := by
  have HR := Aside0.mk hr; have HC := Aside0.mk hc; clear hr hc
  go_enter Tryz.func131, Tryz.ntmps131
  go_wp2
  go_loopg [5, 8] l.length (fun gg _ s8 wr => ∃ kk : Nat, kk ≤ l.length ∧ l.length - kk ≤ gg ∧ s8 = .int .i64 kk ∧ Aside0 (Below w.heap.size w wr) ∧ Aside0 ((l.take kk).any p = false))
  case atStart => exact ⟨0, Nat.zero_le _, by omega, rfl, ⟨Below.refl _ w⟩, ⟨by simp⟩⟩
  case round =>
    obtain ⟨kk, hkk, hg, rfl, BW, AA⟩ := hrel
    by_cases hlt : kk < l.length
    · have hltz : (kk : Int) < (l.length : Int) := by omega
      obtain ⟨ad, e1, hx0, hx1, hx2, hx3, hx4⟩ := at_T66 HR.out (kk : Int) (by omega) hltz
      cases e1
      replace hx0 := (BW.out.cell (World.block_lt_of_cell? w _ hx0)).trans hx0; replace hx1 := (BW.out.cell (World.block_lt_of_cell? w _ hx1)).trans hx1; replace hx2 := (BW.out.cell (World.block_lt_of_cell? w _ hx2)).trans hx2; replace hx3 := (BW.out.cell (World.block_lt_of_cell? w _ hx3)).trans hx3; replace hx4 := (BW.out.cell (World.block_lt_of_cell? w _ hx4)).trans hx4; rw [Int.toNat_natCast] at hx0 hx1 hx2 hx3 hx4; have hcall := hp wr (rd_T66 l kk) BW.out; generalize hy : rd_T66 l kk = y at hx0 hx1 hx2 hx3 hx4 hcall; have HY := Aside0.mk hy; clear hy hp
      cases hq : p y with
      | true =>
        rw [hq] at hcall; have HQ := Aside0.mk hq; clear hq
        go_wp2_with fail
        refine hcall.mono ?_; rintro e w' ⟨rfl, hb'⟩; replace hb' := below_then BW.out BW.out.size hb'; go_wp2; go_ret; exact ⟨_, rfl, ⟨by rw [any_of_at p z66 l kk hlt (by have := HY.out; simp only [rd_T66, Int.toNat_natCast] at this; rw [this]; exact HQ.out)]; simp⟩, hb'⟩
      | false =>
        rw [hq] at hcall; have HQ := Aside0.mk hq; clear hq
        go_wp2_with fail
        refine hcall.mono ?_; rintro e w' ⟨rfl, hb'⟩; replace hb' := below_then BW.out BW.out.size hb'; go_wp2
        go_roundg (l.length - (kk + 1))
        case measure => omega
        case rel => exact ⟨kk + 1, by omega, by omega, by go_num, ⟨hb'⟩, ⟨any_take_succ p z66 l kk AA.out (by have := HY.out; simp only [rd_T66, Int.toNat_natCast] at this; rw [this]; exact HQ.out)⟩⟩
    · have hltz : ¬ (kk : Int) < (l.length : Int) := by omega
      go_wp2; go_ret; exact ⟨_, rfl, ⟨by rw [any_whole p l kk (by omega) AA.out]; rfl⟩, BW.out⟩
theorem contFuncStretch (A : Option Addr) (c : Nat) (l : List S66) (g : Nat) (lb : Array Value) (p : S66 → Bool) (w : World) (hr : Kd.C k66 w A l.length l) (hc : l.length ≤ c) (hl : l.length ≤ 9223372036854775807)
    (eg : ∀ args w, (callFunc g args).run Tryz.prog w = .ok (.enter g args) w) (hp : PredB g lb (fun x => .agg #[.int .i64 x.f0, .int .i64 x.f1, .int .i64 x.f2, .int .i64 x.f3.f0, .int .i64 x.f3.f1]) p w) :
    Calls Tryz.prog 112 #[.slice A l.length c, .func (.func g) #[] lb] w fun e w' => e = .returned (.bool (l.any p)) ∧ Below w.heap.size w w' := by
  have hi := idxFuncStretch A c l g lb p w hr hc hl eg hp; clear hr hp
  go_enter Tryz.func112, Tryz.ntmps112
  go_wp2_with fail
  refine hi.mono ?_; rintro e w' ⟨i, rfl, hd, hb'⟩; go_wp2; go_ret; exact ⟨by rw [← hd.out]; rfl, hb'⟩
theorem idxFuncNote (A : Option Addr) (c : Nat) (l : List S89) (g : Nat) (lb : Array Value) (p : S89 → Bool) (w : World) (hr : Kd.C k89 w A l.length l) (hc : l.length ≤ c) (hl : l.length ≤ 9223372036854775807)
    (eg : ∀ args w, (callFunc g args).run Tryz.prog w = .ok (.enter g args) w) (hp : PredB g lb (fun x => .agg #[.int .i64 x.f0, .int .i64 x.f1.f0, .int .i64 x.f1.f1]) p w) :
    Calls Tryz.prog 126 #[.slice A l.length c, .func (.func g) #[] lb] w fun e w' => ∃ i, e = .returned (.int .i64 i) ∧ Aside0 (decide (0 ≤ i) = l.any p) ∧ Below w.heap.size w w' := by
  have HR := Aside0.mk hr; have HC := Aside0.mk hc; clear hr hc
  go_enter Tryz.func126, Tryz.ntmps126
  go_wp2
  go_loopg [5, 8] l.length (fun gg _ s8 wr => ∃ kk : Nat, kk ≤ l.length ∧ l.length - kk ≤ gg ∧ s8 = .int .i64 kk ∧ Aside0 (Below w.heap.size w wr) ∧ Aside0 ((l.take kk).any p = false))
  case atStart => exact ⟨0, Nat.zero_le _, by omega, rfl, ⟨Below.refl _ w⟩, ⟨by simp⟩⟩
  case round =>
    obtain ⟨kk, hkk, hg, rfl, BW, AA⟩ := hrel
    by_cases hlt : kk < l.length
    · have hltz : (kk : Int) < (l.length : Int) := by omega
      obtain ⟨ad, e1, hx0, hx1, hx2⟩ := at_T89 HR.out (kk : Int) (by omega) hltz
      cases e1
      replace hx0 := (BW.out.cell (World.block_lt_of_cell? w _ hx0)).trans hx0; replace hx1 := (BW.out.cell (World.block_lt_of_cell? w _ hx1)).trans hx1; replace hx2 := (BW.out.cell (World.block_lt_of_cell? w _ hx2)).trans hx2; rw [Int.toNat_natCast] at hx0 hx1 hx2; have hcall := hp wr (rd_T89 l kk) BW.out; generalize hy : rd_T89 l kk = y at hx0 hx1 hx2 hcall; have HY := Aside0.mk hy; clear hy hp
      cases hq : p y with
      | true =>
        rw [hq] at hcall; have HQ := Aside0.mk hq; clear hq
        go_wp2_with fail
        refine hcall.mono ?_; rintro e w' ⟨rfl, hb'⟩; replace hb' := below_then BW.out BW.out.size hb'; go_wp2; go_ret; exact ⟨_, rfl, ⟨by rw [any_of_at p z89 l kk hlt (by have := HY.out; simp only [rd_T89, Int.toNat_natCast] at this; rw [this]; exact HQ.out)]; simp⟩, hb'⟩
      | false =>
        rw [hq] at hcall; have HQ := Aside0.mk hq; clear hq
        go_wp2_with fail
        refine hcall.mono ?_; rintro e w' ⟨rfl, hb'⟩; replace hb' := below_then BW.out BW.out.size hb'; go_wp2
        go_roundg (l.length - (kk + 1))
        case measure => omega
        case rel => exact ⟨kk + 1, by omega, by omega, by go_num, ⟨hb'⟩, ⟨any_take_succ p z89 l kk AA.out (by have := HY.out; simp only [rd_T89, Int.toNat_natCast] at this; rw [this]; exact HQ.out)⟩⟩
    · have hltz : ¬ (kk : Int) < (l.length : Int) := by omega
      go_wp2; go_ret; exact ⟨_, rfl, ⟨by rw [any_whole p l kk (by omega) AA.out]; rfl⟩, BW.out⟩
theorem contFuncNote (A : Option Addr) (c : Nat) (l : List S89) (g : Nat) (lb : Array Value) (p : S89 → Bool) (w : World) (hr : Kd.C k89 w A l.length l) (hc : l.length ≤ c) (hl : l.length ≤ 9223372036854775807)
    (eg : ∀ args w, (callFunc g args).run Tryz.prog w = .ok (.enter g args) w) (hp : PredB g lb (fun x => .agg #[.int .i64 x.f0, .int .i64 x.f1.f0, .int .i64 x.f1.f1]) p w) :
    Calls Tryz.prog 97 #[.slice A l.length c, .func (.func g) #[] lb] w fun e w' => e = .returned (.bool (l.any p)) ∧ Below w.heap.size w w' := by
  have hi := idxFuncNote A c l g lb p w hr hc hl eg hp; clear hr hp
  go_enter Tryz.func97, Tryz.ntmps97
  go_wp2_with fail
  refine hi.mono ?_; rintro e w' ⟨i, rfl, hd, hb'⟩; go_wp2; go_ret; exact ⟨by rw [← hd.out]; rfl, hb'⟩
theorem idxFuncSpan (A : Option Addr) (c : Nat) (l : List S23) (g : Nat) (lb : Array Value) (p : S23 → Bool) (w : World) (hr : Kd.C k23 w A l.length l) (hc : l.length ≤ c) (hl : l.length ≤ 9223372036854775807)
    (eg : ∀ args w, (callFunc g args).run Tryz.prog w = .ok (.enter g args) w) (hp : PredB g lb (fun x => .agg #[.int .i64 x.f0, .int .i64 x.f1]) p w) :
    Calls Tryz.prog 127 #[.slice A l.length c, .func (.func g) #[] lb] w fun e w' => ∃ i, e = .returned (.int .i64 i) ∧ Aside0 (decide (0 ≤ i) = l.any p) ∧ Below w.heap.size w w' := by
  have HR := Aside0.mk hr; have HC := Aside0.mk hc; clear hr hc
  go_enter Tryz.func127, Tryz.ntmps127
  go_wp2
  go_loopg [5, 8] l.length (fun gg _ s8 wr => ∃ kk : Nat, kk ≤ l.length ∧ l.length - kk ≤ gg ∧ s8 = .int .i64 kk ∧ Aside0 (Below w.heap.size w wr) ∧ Aside0 ((l.take kk).any p = false))
  case atStart => exact ⟨0, Nat.zero_le _, by omega, rfl, ⟨Below.refl _ w⟩, ⟨by simp⟩⟩
  case round =>
    obtain ⟨kk, hkk, hg, rfl, BW, AA⟩ := hrel
    by_cases hlt : kk < l.length
    · have hltz : (kk : Int) < (l.length : Int) := by omega
      obtain ⟨ad, e1, hx0, hx1⟩ := at_T23 HR.out (kk : Int) (by omega) hltz
      cases e1
      replace hx0 := (BW.out.cell (World.block_lt_of_cell? w _ hx0)).trans hx0; replace hx1 := (BW.out.cell (World.block_lt_of_cell? w _ hx1)).trans hx1; rw [Int.toNat_natCast] at hx0 hx1; have hcall := hp wr (rd_T23 l kk) BW.out; generalize hy : rd_T23 l kk = y at hx0 hx1 hcall; have HY := Aside0.mk hy; clear hy hp
      cases hq : p y with
      | true =>
        rw [hq] at hcall; have HQ := Aside0.mk hq; clear hq
        go_wp2_with fail
        refine hcall.mono ?_; rintro e w' ⟨rfl, hb'⟩; replace hb' := below_then BW.out BW.out.size hb'; go_wp2; go_ret; exact ⟨_, rfl, ⟨by rw [any_of_at p z23 l kk hlt (by have := HY.out; simp only [rd_T23, Int.toNat_natCast] at this; rw [this]; exact HQ.out)]; simp⟩, hb'⟩
      | false =>
        rw [hq] at hcall; have HQ := Aside0.mk hq; clear hq
        go_wp2_with fail
        refine hcall.mono ?_; rintro e w' ⟨rfl, hb'⟩; replace hb' := below_then BW.out BW.out.size hb'; go_wp2
        go_roundg (l.length - (kk + 1))
        case measure => omega
        case rel => exact ⟨kk + 1, by omega, by omega, by go_num, ⟨hb'⟩, ⟨any_take_succ p z23 l kk AA.out (by have := HY.out; simp only [rd_T23, Int.toNat_natCast] at this; rw [this]; exact HQ.out)⟩⟩
    · have hltz : ¬ (kk : Int) < (l.length : Int) := by omega
      go_wp2; go_ret; exact ⟨_, rfl, ⟨by rw [any_whole p l kk (by omega) AA.out]; rfl⟩, BW.out⟩
theorem contFuncSpan (A : Option Addr) (c : Nat) (l : List S23) (g : Nat) (lb : Array Value) (p : S23 → Bool) (w : World) (hr : Kd.C k23 w A l.length l) (hc : l.length ≤ c) (hl : l.length ≤ 9223372036854775807)
    (eg : ∀ args w, (callFunc g args).run Tryz.prog w = .ok (.enter g args) w) (hp : PredB g lb (fun x => .agg #[.int .i64 x.f0, .int .i64 x.f1]) p w) :
    Calls Tryz.prog 101 #[.slice A l.length c, .func (.func g) #[] lb] w fun e w' => e = .returned (.bool (l.any p)) ∧ Below w.heap.size w w' := by
  have hi := idxFuncSpan A c l g lb p w hr hc hl eg hp; clear hr hp
  go_enter Tryz.func101, Tryz.ntmps101
  go_wp2_with fail
  refine hi.mono ?_; rintro e w' ⟨i, rfl, hd, hb'⟩; go_wp2; go_ret; exact ⟨by rw [← hd.out]; rfl, hb'⟩
theorem idxFuncClass (A : Option Addr) (c : Nat) (l : List S53) (g : Nat) (lb : Array Value) (p : S53 → Bool) (w : World) (hr : Kd.C k53 w A l.length l) (hc : l.length ≤ c) (hl : l.length ≤ 9223372036854775807)
    (eg : ∀ args w, (callFunc g args).run Tryz.prog w = .ok (.enter g args) w) (hp : PredB g lb (fun x => .agg #[.int .i64 x.f0, .int .i64 x.f1, .int .i64 x.f2]) p w) :
    Calls Tryz.prog 128 #[.slice A l.length c, .func (.func g) #[] lb] w fun e w' => ∃ i, e = .returned (.int .i64 i) ∧ Aside0 (decide (0 ≤ i) = l.any p) ∧ Below w.heap.size w w' := by
  have HR := Aside0.mk hr; have HC := Aside0.mk hc; clear hr hc
  go_enter Tryz.func128, Tryz.ntmps128
  go_wp2
  go_loopg [5, 8] l.length (fun gg _ s8 wr => ∃ kk : Nat, kk ≤ l.length ∧ l.length - kk ≤ gg ∧ s8 = .int .i64 kk ∧ Aside0 (Below w.heap.size w wr) ∧ Aside0 ((l.take kk).any p = false))
  case atStart => exact ⟨0, Nat.zero_le _, by omega, rfl, ⟨Below.refl _ w⟩, ⟨by simp⟩⟩
  case round =>
    obtain ⟨kk, hkk, hg, rfl, BW, AA⟩ := hrel
    by_cases hlt : kk < l.length
    · have hltz : (kk : Int) < (l.length : Int) := by omega
      obtain ⟨ad, e1, hx0, hx1, hx2⟩ := at_T53 HR.out (kk : Int) (by omega) hltz
      cases e1
      replace hx0 := (BW.out.cell (World.block_lt_of_cell? w _ hx0)).trans hx0; replace hx1 := (BW.out.cell (World.block_lt_of_cell? w _ hx1)).trans hx1; replace hx2 := (BW.out.cell (World.block_lt_of_cell? w _ hx2)).trans hx2; rw [Int.toNat_natCast] at hx0 hx1 hx2; have hcall := hp wr (rd_T53 l kk) BW.out; generalize hy : rd_T53 l kk = y at hx0 hx1 hx2 hcall; have HY := Aside0.mk hy; clear hy hp
      cases hq : p y with
      | true =>
        rw [hq] at hcall; have HQ := Aside0.mk hq; clear hq
        go_wp2_with fail
        refine hcall.mono ?_; rintro e w' ⟨rfl, hb'⟩; replace hb' := below_then BW.out BW.out.size hb'; go_wp2; go_ret; exact ⟨_, rfl, ⟨by rw [any_of_at p z53 l kk hlt (by have := HY.out; simp only [rd_T53, Int.toNat_natCast] at this; rw [this]; exact HQ.out)]; simp⟩, hb'⟩
      | false =>
        rw [hq] at hcall; have HQ := Aside0.mk hq; clear hq
        go_wp2_with fail
        refine hcall.mono ?_; rintro e w' ⟨rfl, hb'⟩; replace hb' := below_then BW.out BW.out.size hb'; go_wp2
        go_roundg (l.length - (kk + 1))
        case measure => omega
        case rel => exact ⟨kk + 1, by omega, by omega, by go_num, ⟨hb'⟩, ⟨any_take_succ p z53 l kk AA.out (by have := HY.out; simp only [rd_T53, Int.toNat_natCast] at this; rw [this]; exact HQ.out)⟩⟩
    · have hltz : ¬ (kk : Int) < (l.length : Int) := by omega
      go_wp2; go_ret; exact ⟨_, rfl, ⟨by rw [any_whole p l kk (by omega) AA.out]; rfl⟩, BW.out⟩
theorem contFuncClass (A : Option Addr) (c : Nat) (l : List S53) (g : Nat) (lb : Array Value) (p : S53 → Bool) (w : World) (hr : Kd.C k53 w A l.length l) (hc : l.length ≤ c) (hl : l.length ≤ 9223372036854775807)
    (eg : ∀ args w, (callFunc g args).run Tryz.prog w = .ok (.enter g args) w) (hp : PredB g lb (fun x => .agg #[.int .i64 x.f0, .int .i64 x.f1, .int .i64 x.f2]) p w) :
    Calls Tryz.prog 106 #[.slice A l.length c, .func (.func g) #[] lb] w fun e w' => e = .returned (.bool (l.any p)) ∧ Below w.heap.size w w' := by
  have hi := idxFuncClass A c l g lb p w hr hc hl eg hp; clear hr hp
  go_enter Tryz.func106, Tryz.ntmps106
  go_wp2_with fail
  refine hi.mono ?_; rintro e w' ⟨i, rfl, hd, hb'⟩; go_wp2; go_ret; exact ⟨by rw [← hd.out]; rfl, hb'⟩
end Go.Proofs.YtdmdahafiiggiabGreatDoor.K
end
section
namespace Go.Proofs.YtdmdahafiiggiabGreatDoor.K
open Go.RowKit Go.Proofs.YtdmdahafiiggiabGreatDoorW.PrintWords Go.Proofs.YtdmdahafiiggiabGreatDoorW.PrintLast Go.Proofs.YtdmdahafiiggiabGreatDoorW.PrintMore
attribute [local go_sem] max2_int min2_int max_two min_two max_three min_three max_four min_four
def channel_isSpan.f (a0_0 : Int) (a0_1 : Int) (a1 : Int) (a2 : Int) : Option (Bool) := if a1 ≤ a0_0 then (if a0_0 ≤ a0_1 then (some (decide (a0_1 ≤ a2))) else (some false)) else (some false)
set_option maxHeartbeats 8000000 in
set_option maxRecDepth 100000 in
theorem channel_isSpan.calls (a0_0 : Int) (a0_1 : Int) (a1 : Int) (a2 : Int) (r : Bool) (w : World) (h : channel_isSpan.f a0_0 a0_1 a1 a2 = some r) :
  Calls Tryz.prog 96 #[.agg #[.int .i64 a0_0, .int .i64 a0_1], .int .i64 a1, .int .i64 a2] w fun e w' => e = .returned (.bool r) ∧ Below w.heap.size w w' := by
 have hu23 := Tryz.underlying23; have HB := Aside0.mk (Below.refl w.heap.size w); have H : (if a1 ≤ a0_0 then (if a0_0 ≤ a0_1 then (some (decide (a0_1 ≤ a2))) else (some false)) else (some false)) = some r := h; clear h
 by_cases c4 : a1 ≤ a0_0
 ·rw [if_pos c4] at H; replace c4 := decide_eq_true c4
  by_cases c5 : a0_0 ≤ a0_1
  ·rw [if_pos c5] at H; replace c5 := decide_eq_true c5; obtain rfl := Option.some.inj H
   go_enter Tryz.func96, Tryz.ntmps96
   go_wp2_with (first | ((with_reducible refine gate_dst (N := 3) rfl ?_); refine bxe 3 #[.int .i64 a0_0, .int .i64 a0_1] 23 ?_; intro gb105 hg w6 hbox hb; have n0_ := Aside0.mk (below_step uB hb); have n1_ := Aside0.mk (hbox); have n2_ := gw hg; have n3_ := gw hg; clear HB; have HB := n0_; have BK105 := n1_; have GW105 := n2_; have GE105 := n3_; clear n0_ n1_ n2_ n3_; clear hb hbox hg; obtain ⟨hcz7_0, hcz7_1⟩ := cz2 BK105.out; obtain ⟨hfz7_0, hfz7_1⟩ := fz2 BK105.out))
   go_ret; exact ⟨uE, uB⟩
  ·rw [if_neg c5] at H; replace c5 := decide_eq_false c5; obtain rfl := Option.some.inj H
   go_enter Tryz.func96, Tryz.ntmps96
   go_wp2_with (first | ((with_reducible refine gate_dst (N := 3) rfl ?_); refine bxe 3 #[.int .i64 a0_0, .int .i64 a0_1] 23 ?_; intro gb105 hg w8 hbox hb; have n0_ := Aside0.mk (below_step uB hb); have n1_ := Aside0.mk (hbox); have n2_ := gw hg; have n3_ := gw hg; clear HB; have HB := n0_; have BK105 := n1_; have GW105 := n2_; have GE105 := n3_; clear n0_ n1_ n2_ n3_; clear hb hbox hg; obtain ⟨hcz9_0, hcz9_1⟩ := cz2 BK105.out; obtain ⟨hfz9_0, hfz9_1⟩ := fz2 BK105.out))
   go_ret; exact ⟨uE, uB⟩
 ·rw [if_neg c4] at H; replace c4 := decide_eq_false c4; obtain rfl := Option.some.inj H
  go_enter Tryz.func96, Tryz.ntmps96
  go_wp2_with (first | ((with_reducible refine gate_dst (N := 3) rfl ?_); refine bxe 3 #[.int .i64 a0_0, .int .i64 a0_1] 23 ?_; intro gb105 hg w10 hbox hb; have n0_ := Aside0.mk (below_step uB hb); have n1_ := Aside0.mk (hbox); have n2_ := gw hg; have n3_ := gw hg; clear HB; have HB := n0_; have BK105 := n1_; have GW105 := n2_; have GE105 := n3_; clear n0_ n1_ n2_ n3_; clear hb hbox hg; obtain ⟨hcz11_0, hcz11_1⟩ := cz2 BK105.out; obtain ⟨hfz11_0, hfz11_1⟩ := fz2 BK105.out))
  go_ret; exact ⟨uE, uB⟩
end Go.Proofs.YtdmdahafiiggiabGreatDoor.K
end
section
namespace Go.Proofs.YtdmdahafiiggiabGreatDoor.K
open Go.RowKit Go.Proofs.YtdmdahafiiggiabGreatDoorW.PrintWords Go.Proofs.YtdmdahafiiggiabGreatDoorW.PrintLast Go.Proofs.YtdmdahafiiggiabGreatDoorW.PrintMore
def inB (x lo hi : Int) : Bool := decide (lo ≤ x) && decide (x ≤ hi)
def isSpanB (a b lo hi : Int) : Bool := decide (lo ≤ a) && decide (a ≤ b) && decide (b ≤ hi)
theorem in_any (x lo hi : Int) (w : World) : Calls Tryz.prog 62 #[.int .i64 x, .int .i64 lo, .int .i64 hi] w fun e w' => e = .returned (.bool (inB x lo hi)) ∧ w = w' := by
  by_cases h1 : lo ≤ x
  · by_cases h2 : x ≤ hi
    · go_enter Tryz.func62, Tryz.ntmps62
      go_wp2; go_ret; exact ⟨by simp [inB, h1, h2], rfl⟩
    · go_enter Tryz.func62, Tryz.ntmps62
      go_wp2; go_ret; exact ⟨by simp [inB, h1, h2], rfl⟩
  · go_enter Tryz.func62, Tryz.ntmps62
    go_wp2; go_ret; exact ⟨by unfold inB; rw [decide_eq_false (by omega)]; rfl, rfl⟩
theorem isSpan_f (a b lo hi : Int) : channel_isSpan.f a b lo hi = some (isSpanB a b lo hi) := by
  unfold channel_isSpan.f isSpanB
  by_cases h1 : lo ≤ a <;> by_cases h2 : a ≤ b <;> simp [h1, h2]
theorem isSpan_any (a b lo hi : Int) (w : World) : Calls Tryz.prog 96 #[.agg #[.int .i64 a, .int .i64 b], .int .i64 lo, .int .i64 hi] w fun e w' => e = .returned (.bool (isSpanB a b lo hi)) ∧ Below w.heap.size w w' :=
  channel_isSpan.calls a b lo hi _ w (isSpan_f a b lo hi)
theorem isLine1_any (x : Int) (w : World) : Calls Tryz.prog 110 #[.int .i64 x] w fun e w' => e = .returned (.bool (!inB x 1 1000)) ∧ w = w' := by
  go_enter Tryz.func110, Tryz.ntmps110
  go_wp2_with (go_at_call 62; refine (in_any _ _ _ _).mono ?_; rintro e w' ⟨rfl, rfl⟩)
  go_ret; exact ⟨rfl, rfl⟩
def stretchB (n : Int) (s : S66) : Bool := inB s.f0 1 100 && inB s.f1 1 100 && inB s.f2 0 (n - 1) && isSpanB s.f3.f0 s.f3.f1 0 100
theorem isLine2_any (s : S66) (B : Nat) (A : Option Addr) (n c : Nat) (hn : n ≤ 9223372036854775807) (W : World) (hB : B < W.heap.size) (hcell : W.cell? ⟨B, 0, none⟩ = some (.slice A n c)) :
    Calls Tryz.prog 111 #[.agg #[.int .i64 s.f0, .int .i64 s.f1, .int .i64 s.f2, .int .i64 s.f3.f0, .int .i64 s.f3.f1], .pointer (some ⟨B, 0, none⟩)] W fun e w' => e = .returned (.bool (!stretchB n s)) ∧ Below W.heap.size W w' := by
  have hu := Tryz.underlying66; have hu2 := Tryz.underlying60; have hu3 := Tryz.underlying23; have hBW : ¬ B = W.heap.size := by omega
  have hne : B ≠ W.heap.size := by omega
  have n0 : (0 : Int) ≤ (n : Int) := by omega
  have n1 : (n : Int) ≤ 9223372036854775807 := by omega
  obtain ⟨f0, f1, f2, ⟨g0, g1⟩⟩ := s
  dsimp only
  cases h1 : inB f0 1 100 with
  | false =>
    go_enter Tryz.func111, Tryz.ntmps111
    go_wp2_with (go_at_call 62; refine (in_any _ _ _ _).mono ?_; rintro e w' ⟨rfl, rfl⟩)
    go_ret; exact ⟨by simp [stretchB, h1], (Below.refl _ _).alloc (Nat.le_refl _) _⟩
  | true =>
  cases h2 : inB f1 1 100 with
  | false =>
    go_enter Tryz.func111, Tryz.ntmps111
    go_wp2_with (go_at_call 62; refine (in_any _ _ _ _).mono ?_; rintro e w' ⟨rfl, rfl⟩)
    go_ret; exact ⟨by simp [stretchB, h1, h2], (Below.refl _ _).alloc (Nat.le_refl _) _⟩
  | true =>
  cases h3 : inB f2 0 (n - 1) with
  | false =>
    go_enter Tryz.func111, Tryz.ntmps111
    go_wp2_with (go_at_call 62; refine (in_any _ _ _ _).mono ?_; rintro e w' ⟨rfl, rfl⟩)
    go_ret; exact ⟨by simp [stretchB, h1, h2, h3], (Below.refl _ _).alloc (Nat.le_refl _) _⟩
  | true =>
    go_enter Tryz.func111, Tryz.ntmps111
    go_wp2_with (first | (go_at_call 62; refine (in_any _ _ _ _).mono ?_; rintro e w' ⟨rfl, rfl⟩) | (go_at_call 96; refine (isSpan_any _ _ _ _ _).mono ?_; rintro e w' ⟨rfl, hb⟩))
    go_ret; exact ⟨by simp [stretchB, h1, h2, h3], below_then ((Below.refl _ _).alloc (Nat.le_refl _) _) (by simp) hb⟩
def isLineB (sp : List Int) (st : List S66) : Bool := inB sp.length 1 10 && inB st.length 1 8 && sp.all (fun x => inB x 1 1000) && st.all (stretchB sp.length)
def channel_isLine.f (sp : List Int) (st : List S66) : Option Bool := if sp.length ≤ 9223372036854775807 ∧ st.length ≤ 9223372036854775807 then some (isLineB sp st) else none
theorem any_not_all {α : Type} (p : α → Bool) (l : List α) : (l.any fun x => !p x) = !(l.all p) := by
  induction l with
  | nil => rfl
  | cons x l ih => simp [ih, Bool.not_and]
theorem channel_isLine.calls (A0_0 : Option Addr) (c0_0 : Nat) (l0_0 : List Int) (A0_1 : Option Addr) (c0_1 : Nat) (l0_1 : List S66) (r : Bool) (w : World) (hr0_0 : Kd.C (Kd.int .i64) w A0_0 l0_0.length l0_0) (hc0_0 : l0_0.length ≤ c0_0) (hr0_1 : Kd.C k66 w A0_1 l0_1.length l0_1) (hc0_1 : l0_1.length ≤ c0_1) (h : channel_isLine.f l0_0 l0_1 = some r) :
    Calls Tryz.prog 69 #[.agg #[.slice A0_0 l0_0.length c0_0, .slice A0_1 l0_1.length c0_1]] w fun e w' => e = .returned (.bool r) ∧ Below w.heap.size w w' := by
  unfold channel_isLine.f at h
  by_cases hl : l0_0.length ≤ 9223372036854775807 ∧ l0_1.length ≤ 9223372036854775807
  case neg => rw [if_neg hl] at h; cases h
  rw [if_pos hl] at h; obtain rfl := Option.some.inj h; clear h; obtain ⟨hl0, hl1⟩ := hl; have hu2 := Tryz.underlying60; have hmf : ∀ (fn : Fn) (first cap : Array Value) (w : World), (Instr.makeFunc fn first cap).run Tryz.prog w = .ok (.func fn first cap) w := fun _ _ _ _ => rfl; have n0 : (0 : Int) ≤ (l0_0.length : Int) := by omega
  have n1 : (l0_0.length : Int) ≤ 9223372036854775807 := by omega
  obtain ⟨w1, hw1⟩ : ∃ w1, w.alloc (.cells #[.slice A0_0 l0_0.length c0_0, .slice A0_1 l0_1.length c0_1] 60) = w1 := ⟨_, rfl⟩; have hB1 : Below w.heap.size w w1 := by rw [← hw1]; exact (Below.refl _ _).alloc (Nat.le_refl _) _
  have hlt : w.heap.size < w1.heap.size := by rw [← hw1]; simp
  have hc0 : w1.cell? ⟨w.heap.size, 0, none⟩ = some (.slice A0_0 l0_0.length c0_0) := by rw [← hw1]; simp [go_sem]
  have hc1 : w1.cell? ⟨w.heap.size, 1, none⟩ = some (.slice A0_1 l0_1.length c0_1) := by rw [← hw1]; simp [go_sem]
  have c90 := contFuncInt A0_0 c0_0 l0_0 110 #[] (fun x => !inB x 1 1000) w1 (Kd.C_below hr0_0 hB1) hc0_0 hl0 (enters_of Tryz.func110 (by kernel_rfl) rfl) (fun W x _ => (isLine1_any x W).mono fun e w' ⟨he, hw⟩ => ⟨he, hw ▸ Below.refl _ _⟩); rw [any_not_all] at c90
  have c100 : ∀ W, Below w1.heap.size w1 W → Calls Tryz.prog 112 #[.slice A0_1 l0_1.length c0_1, .func (.func 111) #[] #[.pointer (some ⟨w.heap.size, 0, none⟩)]] W fun e w' => e = .returned (.bool (!l0_1.all (stretchB l0_0.length))) ∧ Below W.heap.size W w' := fun W hW => by
    have := contFuncStretch A0_1 c0_1 l0_1 111 #[.pointer (some ⟨w.heap.size, 0, none⟩)] (fun s => !stretchB l0_0.length s) W (Kd.C_below hr0_1 (below_then hB1 hB1.size hW)) hc0_1 hl1 (enters_of Tryz.func111 (by kernel_rfl) rfl)
      (fun W' s hW' => isLine2_any s w.heap.size A0_0 l0_0.length c0_0 hl0 W' (Nat.lt_of_lt_of_le hlt (Nat.le_trans hW.size hW'.size)) ((hW'.cell (p := ⟨w.heap.size, 0, none⟩) (Nat.lt_of_lt_of_le hlt hW.size)).trans ((hW.cell (p := ⟨w.heap.size, 0, none⟩) hlt).trans hc0)))
    rwa [any_not_all] at this
  have C100 := Aside0.mk c100; have HR := Aside0.mk (And.intro hr0_0 hr0_1); clear c100 hr0_0 hr0_1; have HW1 := Aside0.mk hw1; have HLT := Aside0.mk hlt; clear hlt
  cases h1 : inB l0_0.length 1 10 with
  | false =>
    go_enter Tryz.func69, Tryz.ntmps69
    go_wp2_with (first | (go_at_call 62; refine (in_any _ _ _ _).mono ?_; rintro e w' ⟨rfl, rfl⟩))
    go_ret; exact ⟨by simp [isLineB, h1], hB1⟩
  | true =>
  cases h2 : inB l0_1.length 1 8 with
  | false =>
    go_enter Tryz.func69, Tryz.ntmps69
    go_wp2_with (first | (go_at_call 62; refine (in_any _ _ _ _).mono ?_; rintro e w' ⟨rfl, rfl⟩))
    go_ret; exact ⟨by simp [isLineB, h1, h2], hB1⟩
  | true =>
  cases h3 : l0_0.all (fun x => inB x 1 1000) with
  | false =>
    rw [h3] at c90
    go_enter Tryz.func69, Tryz.ntmps69
    go_wp2_with (first | (go_at_call 62; refine (in_any _ _ _ _).mono ?_; rintro e w' ⟨rfl, rfl⟩) | (go_at_call 60; refine c90.mono ?_; rintro e w' ⟨rfl, hb⟩))
    go_ret; exact ⟨by simp [isLineB, h1, h2, h3], below_then hB1 hB1.size hb⟩
  | true =>
    rw [h3] at c90
    go_enter Tryz.func69, Tryz.ntmps69
    go_wp2_with (first | (go_at_call 62; refine (in_any _ _ _ _).mono ?_; rintro e w' ⟨rfl, rfl⟩) | (go_at_call 60; refine c90.mono ?_; rintro e w2 ⟨rfl, hb⟩; have hc1' := (hb.cell (p := ⟨w.heap.size, 1, none⟩) HLT.out).trans hc1))
    refine (C100.out _ hb).mono ?_; rintro e w3 ⟨rfl, hb3⟩; go_wp2; go_ret; exact ⟨by simp [isLineB, h1, h2, h3], below_then (below_then hB1 hB1.size hb) (Nat.le_trans hB1.size hb.size) hb3⟩
end Go.Proofs.YtdmdahafiiggiabGreatDoor.K
end
section
namespace Go.Proofs.YtdmdahafiiggiabGreatDoor.K
open Go.RowKit Go.Proofs.YtdmdahafiiggiabGreatDoorW.PrintWords Go.Proofs.YtdmdahafiiggiabGreatDoorW.PrintLast Go.Proofs.YtdmdahafiiggiabGreatDoorW.PrintMore
attribute [local go_sem] max2_int min2_int max_two min_two max_three min_three max_four min_four
def channel_aging.f (l0_0 : List Int) (l0_1 : List (S66)) (a1 : Int) (a2 : Int) : Option (Int × Int × Int × Int × Int × Int × Int) := if 0 ≤ a1 then (if a1 < (l0_1.length : Int) then (if 0 ≤ ((rd_T66 l0_1 a1).f2) then (if ((rd_T66 l0_1 a1).f2) < (l0_0.length : Int) then (some ((rd_T66 l0_1 a1).f0, (rd_T66 l0_1 a1).f1, (rd_T66 l0_1 a1).f2, (rd_T66 l0_1 a1).f3.f0, (rd_T66 l0_1 a1).f3.f1, a2, rd l0_0 ((rd_T66 l0_1 a1).f2))) else (none)) else (none)) else (none)) else (none)
def channel_aging.T2 : Bool × List (List Nat × List Nat) := (true, [([], []), ([], []), ([], []), ([2], [2]), ([], []), ([4], [4]), ([3, 5], [3, 5]), ([6], [6]), ([0, 1, 7], [0, 1, 7]), ([8, 0, 1, 2, 3, 4, 5, 6, 7, 8], [8])])
def channel_aging.B2 : List Nat := [0, 0, 0, 4, 0, 16, 60, 124, 255, 511]
theorem channel_aging.tab2 : rtab .any (opsOf Tryz.f72 2) = channel_aging.T2 := by kernel_rfl
theorem channel_aging.bits2 : waitsOk channel_aging.T2.2 channel_aging.B2 = true := by kernel_rfl
set_option maxHeartbeats 8000000 in
set_option maxRecDepth 100000 in
theorem channel_aging.calls (A0_0 : Option Addr) (c0_0 : Nat) (l0_0 : List Int) (A0_1 : Option Addr) (c0_1 : Nat) (l0_1 : List (S66)) (a1 : Int) (a2 : Int) (r1 : Int) (r2 : Int) (r3 : Int) (r4 : Int) (r5 : Int) (r6 : Int) (r7 : Int) (w : World) (hr0_0 : Kd.C (Kd.int .i64) w A0_0 l0_0.length l0_0) (hc0_0 : l0_0.length ≤ c0_0) (hr0_1 : Kd.C k66 w A0_1 l0_1.length l0_1) (hc0_1 : l0_1.length ≤ c0_1) (h : channel_aging.f l0_0 l0_1 a1 a2 = some (r1, r2, r3, r4, r5, r6, r7)) :
  Calls Tryz.prog 72 #[.agg #[.slice A0_0 l0_0.length c0_0, .slice A0_1 l0_1.length c0_1], .int .i64 a1, .int .i64 a2] w fun e w' => e = .returned (.agg #[.int .i64 r1, .int .i64 r2, .int .i64 r3, .int .i64 r4, .int .i64 r5, .int .i64 r6, .int .i64 r7]) ∧ Below w.heap.size w w' := by
 have hu60 := Tryz.underlying60; have hu108 := Tryz.underlying108; have hu66 := Tryz.underlying66; have HR0_0 := Aside0.mk hr0_0; have HC0_0 := Aside0.mk hc0_0; clear hr0_0 hc0_0; have HR0_1 := Aside0.mk hr0_1; have HC0_1 := Aside0.mk hc0_1; clear hr0_1 hc0_1; have HB := Aside0.mk (Below.refl w.heap.size w); have H : (if 0 ≤ a1 then (if a1 < (l0_1.length : Int) then (if 0 ≤ ((rd_T66 l0_1 a1).f2) then (if ((rd_T66 l0_1 a1).f2) < (l0_0.length : Int) then (some ((rd_T66 l0_1 a1).f0, (rd_T66 l0_1 a1).f1, (rd_T66 l0_1 a1).f2, (rd_T66 l0_1 a1).f3.f0, (rd_T66 l0_1 a1).f3.f1, a2, rd l0_0 ((rd_T66 l0_1 a1).f2))) else (none)) else (none)) else (none)) else (none)) = some (r1, r2, r3, r4, r5, r6, r7) := h; clear h; obtain ⟨c4, H⟩ := ifs H; replace c4 := decide_eq_true c4; obtain ⟨c5, H⟩ := ifs H; replace c5 := decide_eq_true c5; obtain ⟨c6, H⟩ := ifs H; replace c6 := decide_eq_true c6; obtain ⟨c7, H⟩ := ifs H; replace c7 := decide_eq_true c7; simp only [Option.some.injEq, Prod.mk.injEq] at H; obtain ⟨rfl, rfl, rfl, rfl, rfl, rfl, rfl⟩ := H
 go_enter Tryz.func72, Tryz.ntmps72
 (try go_wp2_with (first | ((with_reducible refine gate_dst (N := 3) rfl ?_); refine bxe 3 #[.slice A0_0 l0_0.length c0_0, .slice A0_1 l0_1.length c0_1] 60 ?_; intro gb143 hg w8 hbox hb; have n0_ := Aside0.mk (below_step uB hb); have n1_ := Aside0.mk (hbox); have n2_ := gw hg; have n3_ := gw hg; clear HB; have HB := n0_; have BK143 := n1_; have GW143 := n2_; have GE143 := n3_; clear n0_ n1_ n2_ n3_; clear hb hbox hg) | ((with_reducible refine gate_dst (N := 6) rfl ?_); refine bxe 6 #[.int .i64 0, .int .i64 0, .int .i64 0, .int .i64 0, .int .i64 0, .int .i64 0, .int .i64 0] 108 ?_; intro gb144 hg w9 hbox hb; have n0_ := Aside0.mk (blk_below (uK BK143.out) hb); have n1_ := Aside0.mk (below_step uB hb); have n2_ := Aside0.mk (hbox); have n3_ := gw hg; have n4_ := gw hg; have n5_ := nb BK143 hg; have n6_ := nc BK143 hg; clear BK143; clear HB; have BK143 := n0_; have HB := n1_; have BK144 := n2_; have GW144 := n3_; have GE144 := n4_; have NB143_144 := n5_; have NB144_143 := n6_; clear n0_ n1_ n2_ n3_ n4_ n5_ n6_; clear hb hbox hg; have hnb10 := NB143_144.out; have hnc10 := NB144_143.out; obtain ⟨hcz11_0, hcz11_1⟩ := cz2 BK143.out; obtain ⟨hfz11_0, hfz11_1⟩ := fz2 BK143.out; have p145 : 0 ≤ (a1 : Int) := uD; have q145 : a1 < (l0_1.length : Int) := uD; obtain ⟨ad145, e145, hx145_0, hx145_1, hx145_2, hx145_3, hx145_4⟩ := at_T66 HR0_1.out a1 p145 q145; cases e145; replace hx145_0 := hcell HB.out hx145_0; replace hx145_1 := hcell HB.out hx145_1; replace hx145_2 := hcell HB.out hx145_2; replace hx145_3 := hcell HB.out hx145_3; replace hx145_4 := hcell HB.out hx145_4; replace p145 := eq_true p145; replace q145 := eq_true q145) | ((with_reducible refine gate_dst (N := 7) rfl ?_); refine bxe 7 #[.int .i64 0, .int .i64 0, .int .i64 0, .int .i64 0, .int .i64 0] 66 ?_; intro gb146 hg w12 hbox hb; have n0_ := Aside0.mk (blk_below (uK BK143.out) hb); have n1_ := Aside0.mk (blk_below (uK BK144.out) hb); have n2_ := Aside0.mk (below_step uB hb); have n3_ := Aside0.mk (hbox); have n4_ := gw hg; have n5_ := gw hg; have n6_ := nb BK143 hg; have n7_ := nc BK143 hg; have n8_ := nb BK144 hg; have n9_ := nc BK144 hg; clear BK143; clear BK144; clear HB; have BK143 := n0_; have BK144 := n1_; have HB := n2_; have BK146 := n3_; have GW146 := n4_; have GE146 := n5_; have NB143_146 := n6_; have NB146_143 := n7_; have NB144_146 := n8_; have NB146_144 := n9_; clear n0_ n1_ n2_ n3_ n4_ n5_ n6_ n7_ n8_ n9_; clear hb hbox hg; have hnb13 := NB146_143.out; have hnc13 := NB143_146.out; have hnb14 := NB146_144.out; have hnc14 := NB144_146.out; obtain ⟨hcz15_0, hcz15_1, hcz15_2, hcz15_3, hcz15_4⟩ := cz5 BK146.out; obtain ⟨hfz15_0, hfz15_1, hfz15_2, hfz15_3, hfz15_4⟩ := fz5 BK146.out))); have n0_ : Aside0 ((((((w12.setCell ⟨gb146, 0, none⟩ (.int .i64 ((rd_T66 l0_1 a1).f0))).setCell ⟨gb146, 1, none⟩ (.int .i64 ((rd_T66 l0_1 a1).f1))).setCell ⟨gb146, 2, none⟩ (.int .i64 ((rd_T66 l0_1 a1).f2))).setCell ⟨gb146, 3, none⟩ (.int .i64 ((rd_T66 l0_1 a1).f3.f0))).setCell ⟨gb146, 4, none⟩ (.int .i64 ((rd_T66 l0_1 a1).f3.f1))).heap[gb143]? = some (.cells #[.slice A0_0 l0_0.length c0_0, .slice (some ad145) l0_1.length c0_1] 60 (0, 0))) := ⟨by refine uK ?_; refine blk_far ?_ NB143_146.out _; refine uK ?_; refine blk_far ?_ NB143_146.out _; refine uK ?_; refine blk_far ?_ NB143_146.out _; refine uK ?_; refine blk_far ?_ NB143_146.out _; refine uK ?_; refine blk_far ?_ NB143_146.out _; refine uK ?_; exact BK143.out⟩; have n1_ : Aside0 ((((((w12.setCell ⟨gb146, 0, none⟩ (.int .i64 ((rd_T66 l0_1 a1).f0))).setCell ⟨gb146, 1, none⟩ (.int .i64 ((rd_T66 l0_1 a1).f1))).setCell ⟨gb146, 2, none⟩ (.int .i64 ((rd_T66 l0_1 a1).f2))).setCell ⟨gb146, 3, none⟩ (.int .i64 ((rd_T66 l0_1 a1).f3.f0))).setCell ⟨gb146, 4, none⟩ (.int .i64 ((rd_T66 l0_1 a1).f3.f1))).heap[gb144]? = some (.cells #[.int .i64 0, .int .i64 0, .int .i64 0, .int .i64 0, .int .i64 0, .int .i64 0, .int .i64 0] 108 (0, 0))) := ⟨by refine uK ?_; refine blk_far ?_ NB144_146.out _; refine uK ?_; refine blk_far ?_ NB144_146.out _; refine uK ?_; refine blk_far ?_ NB144_146.out _; refine uK ?_; refine blk_far ?_ NB144_146.out _; refine uK ?_; refine blk_far ?_ NB144_146.out _; refine uK ?_; exact BK144.out⟩; have n2_ : Aside0 ((((((w12.setCell ⟨gb146, 0, none⟩ (.int .i64 ((rd_T66 l0_1 a1).f0))).setCell ⟨gb146, 1, none⟩ (.int .i64 ((rd_T66 l0_1 a1).f1))).setCell ⟨gb146, 2, none⟩ (.int .i64 ((rd_T66 l0_1 a1).f2))).setCell ⟨gb146, 3, none⟩ (.int .i64 ((rd_T66 l0_1 a1).f3.f0))).setCell ⟨gb146, 4, none⟩ (.int .i64 ((rd_T66 l0_1 a1).f3.f1))).heap[gb146]? = some (.cells #[.int .i64 ((rd_T66 l0_1 a1).f0), .int .i64 ((rd_T66 l0_1 a1).f1), .int .i64 ((rd_T66 l0_1 a1).f2), .int .i64 ((rd_T66 l0_1 a1).f3.f0), .int .i64 ((rd_T66 l0_1 a1).f3.f1)] 66 (0, 0))) := ⟨by refine uK ?_; refine blk_put (cs := #[.int .i64 ((rd_T66 l0_1 a1).f0), .int .i64 ((rd_T66 l0_1 a1).f1), .int .i64 ((rd_T66 l0_1 a1).f2), .int .i64 ((rd_T66 l0_1 a1).f3.f0), .int .i64 0]) ?_ 4 _ rfl; refine uK ?_; refine blk_put (cs := #[.int .i64 ((rd_T66 l0_1 a1).f0), .int .i64 ((rd_T66 l0_1 a1).f1), .int .i64 ((rd_T66 l0_1 a1).f2), .int .i64 0, .int .i64 0]) ?_ 3 _ rfl; refine uK ?_; refine blk_put (cs := #[.int .i64 ((rd_T66 l0_1 a1).f0), .int .i64 ((rd_T66 l0_1 a1).f1), .int .i64 0, .int .i64 0, .int .i64 0]) ?_ 2 _ rfl; refine uK ?_; refine blk_put (cs := #[.int .i64 ((rd_T66 l0_1 a1).f0), .int .i64 0, .int .i64 0, .int .i64 0, .int .i64 0]) ?_ 1 _ rfl; refine uK ?_; refine blk_put (cs := #[.int .i64 0, .int .i64 0, .int .i64 0, .int .i64 0, .int .i64 0]) ?_ 0 _ rfl; refine uK ?_; exact BK146.out⟩; have n3_ : Aside0 (Below w.heap.size w (((((w12.setCell ⟨gb146, 0, none⟩ (.int .i64 ((rd_T66 l0_1 a1).f0))).setCell ⟨gb146, 1, none⟩ (.int .i64 ((rd_T66 l0_1 a1).f1))).setCell ⟨gb146, 2, none⟩ (.int .i64 ((rd_T66 l0_1 a1).f2))).setCell ⟨gb146, 3, none⟩ (.int .i64 ((rd_T66 l0_1 a1).f3.f0))).setCell ⟨gb146, 4, none⟩ (.int .i64 ((rd_T66 l0_1 a1).f3.f1)))) := ⟨uB⟩; (try clear BK143); (try clear BK144); (try clear BK146); (try clear HB); generalize (((((w12.setCell ⟨gb146, 0, none⟩ (.int .i64 ((rd_T66 l0_1 a1).f0))).setCell ⟨gb146, 1, none⟩ (.int .i64 ((rd_T66 l0_1 a1).f1))).setCell ⟨gb146, 2, none⟩ (.int .i64 ((rd_T66 l0_1 a1).f2))).setCell ⟨gb146, 3, none⟩ (.int .i64 ((rd_T66 l0_1 a1).f3.f0))).setCell ⟨gb146, 4, none⟩ (.int .i64 ((rd_T66 l0_1 a1).f3.f1))) = w16 at n0_ n1_ n2_ n3_ ⊢; have BK143 := n0_; have BK144 := n1_; have BK146 := n2_; have HB := n3_; clear n0_ n1_ n2_ n3_; replace BK143 := Aside0.mk (blk_drew BK143.out); replace BK144 := Aside0.mk (blk_drew BK144.out); replace BK146 := Aside0.mk (blk_drew BK146.out); replace HB := Aside0.mk (below_drew1 HB.out); have p147 : 0 ≤ (((rd_T66 l0_1 a1).f2) : Int) := uD; have q147 : ((rd_T66 l0_1 a1).f2) < (l0_0.length : Int) := uD; obtain ⟨ad147, e147, hx147_0⟩ := Kd.at_int HR0_0.out ((rd_T66 l0_1 a1).f2) p147 q147; have hw147_0 := hx147_0
 cases e147
 replace hx147_0 := hcell HB.out hx147_0; replace p147 := eq_true p147; replace q147 := eq_true q147; refine start_ (n := 10) (S := fun w' => w'.cell? ⟨gb146, 0, none⟩ = some (.int .i64 ((rd_T66 l0_1 a1).f0)) ∧ w'.cell? ⟨gb146, 1, none⟩ = some (.int .i64 ((rd_T66 l0_1 a1).f1)) ∧ w'.cell? ⟨gb146, 2, none⟩ = some (.int .i64 ((rd_T66 l0_1 a1).f2)) ∧ w'.cell? ⟨gb146, 3, none⟩ = some (.int .i64 ((rd_T66 l0_1 a1).f3.f0)) ∧ w'.cell? ⟨gb146, 4, none⟩ = some (.int .i64 ((rd_T66 l0_1 a1).f3.f1)) ∧ w'.cell? ⟨gb143, 0, none⟩ = some (.slice (some ad147) l0_0.length c0_0) ∧ w'.cell? ⟨gb143, 1, none⟩ = some (.slice (some ad145) l0_1.length c0_1) ∧ w'.cell? (ad147.add (((rd_T66 l0_1 a1).f2)).toNat) = some (.int .i64 (rd l0_0 ((rd_T66 l0_1 a1).f2)))) (ds := []) (bl 10 0) (by kernel_rfl) rfl rfl ⟨(blk_cell BK146.out 0).trans rfl, (blk_cell BK146.out 1).trans rfl, (blk_cell BK146.out 2).trans rfl, (blk_cell BK146.out 3).trans rfl, (blk_cell BK146.out 4).trans rfl, (blk_cell BK143.out 0).trans rfl, (blk_cell BK143.out 1).trans rfl, (hcell HB.out hw147_0)⟩ (fun hHeld => ?_); refine with_tabW channel_aging.tab2 channel_aging.bits2 (fun HT_ HW_ => ?_)
 generalize w16.drew = w17 at BK143 BK144 BK146 HB hx147_0 hHeld ⊢; refine pu 1 14 10 2 ?_; refine pu 2 15 10 6 ?_; refine pu 4 17 10 22 ?_; refine tk8 0 13 10 23 hHeld ?_; refine tk8 3 16 10 31 hHeld ?_; refine tk8 5 18 10 63 hHeld ?_; refine pu 6 19 10 127 ?_; refine tk8 7 20 10 255 hHeld ?_; refine pu 8 21 10 511 ?_; refine one_ (i := 9) (N := none) (bl 10 1023) rfl rfl (one_of HT_.out (by kernel_rfl)) (by decide) (fun K hK => ?_); have hs18 := (blk_cell BK144.out 0).trans rfl; have hfs18 := blk_frozen BK144.out 0; have hns18_0 := NB143_144.out; have hns18_2 := NB146_144.out; have hms18_0 := NB144_143.out; have hms18_2 := NB144_146.out; have hs19 := (blk_cell BK144.out 1).trans rfl; have hfs19 := blk_frozen BK144.out 1; have hns19_0 := NB143_144.out; have hns19_2 := NB146_144.out; have hms19_0 := NB144_143.out; have hms19_2 := NB144_146.out; have hs20 := (blk_cell BK144.out 2).trans rfl; have hfs20 := blk_frozen BK144.out 2; have hns20_0 := NB143_144.out; have hns20_2 := NB146_144.out; have hms20_0 := NB144_143.out; have hms20_2 := NB144_146.out; have hs21 := (blk_cell BK144.out 3).trans rfl; have hfs21 := blk_frozen BK144.out 3; have hns21_0 := NB143_144.out; have hns21_2 := NB146_144.out; have hms21_0 := NB144_143.out; have hms21_2 := NB144_146.out; have hs22 := (blk_cell BK144.out 4).trans rfl; have hfs22 := blk_frozen BK144.out 4; have hns22_0 := NB143_144.out; have hns22_2 := NB146_144.out; have hms22_0 := NB144_143.out; have hms22_2 := NB144_146.out; have hs23 := (blk_cell BK144.out 5).trans rfl; have hfs23 := blk_frozen BK144.out 5; have hns23_0 := NB143_144.out; have hns23_2 := NB146_144.out; have hms23_0 := NB144_143.out; have hms23_2 := NB144_146.out; have hs24 := (blk_cell BK144.out 6).trans rfl; have hfs24 := blk_frozen BK144.out 6; have hns24_0 := NB143_144.out; have hns24_2 := NB146_144.out; have hms24_0 := NB144_143.out; have hms24_2 := NB144_146.out; refine skip_ (w1 := ?_) (by rfl) rfl ?_ ?_; rotate_left
 ·go_simp
  rfl
 refine hK.out _ _ ⟨((cf gb144 NB146_144.out).trans (((cf gb144 NB146_144.out).trans (((cf gb144 NB146_144.out).trans (((cf gb144 NB146_144.out).trans (((cf gb144 NB146_144.out).trans (((cf gb144 NB146_144.out).trans (((cf gb144 NB146_144.out).trans (hHeld.1)))))))))))))), ((cf gb144 NB146_144.out).trans (((cf gb144 NB146_144.out).trans (((cf gb144 NB146_144.out).trans (((cf gb144 NB146_144.out).trans (((cf gb144 NB146_144.out).trans (((cf gb144 NB146_144.out).trans (((cf gb144 NB146_144.out).trans (hHeld.2.1)))))))))))))), ((cf gb144 NB146_144.out).trans (((cf gb144 NB146_144.out).trans (((cf gb144 NB146_144.out).trans (((cf gb144 NB146_144.out).trans (((cf gb144 NB146_144.out).trans (((cf gb144 NB146_144.out).trans (((cf gb144 NB146_144.out).trans (hHeld.2.2.1)))))))))))))), ((cf gb144 NB146_144.out).trans (((cf gb144 NB146_144.out).trans (((cf gb144 NB146_144.out).trans (((cf gb144 NB146_144.out).trans (((cf gb144 NB146_144.out).trans (((cf gb144 NB146_144.out).trans (((cf gb144 NB146_144.out).trans (hHeld.2.2.2.1)))))))))))))), ((cf gb144 NB146_144.out).trans (((cf gb144 NB146_144.out).trans (((cf gb144 NB146_144.out).trans (((cf gb144 NB146_144.out).trans (((cf gb144 NB146_144.out).trans (((cf gb144 NB146_144.out).trans (((cf gb144 NB146_144.out).trans (hHeld.2.2.2.2.1)))))))))))))), ((cf gb144 NB143_144.out).trans (((cf gb144 NB143_144.out).trans (((cf gb144 NB143_144.out).trans (((cf gb144 NB143_144.out).trans (((cf gb144 NB143_144.out).trans (((cf gb144 NB143_144.out).trans (((cf gb144 NB143_144.out).trans (hHeld.2.2.2.2.2.1)))))))))))))), ((cf gb144 NB143_144.out).trans (((cf gb144 NB143_144.out).trans (((cf gb144 NB143_144.out).trans (((cf gb144 NB143_144.out).trans (((cf gb144 NB143_144.out).trans (((cf gb144 NB143_144.out).trans (((cf gb144 NB143_144.out).trans (hHeld.2.2.2.2.2.2.1)))))))))))))), ((cf gb144 (fl hw147_0 GW144)).trans (((cf gb144 (fl hw147_0 GW144)).trans (((cf gb144 (fl hw147_0 GW144)).trans (((cf gb144 (fl hw147_0 GW144)).trans (((cf gb144 (fl hw147_0 GW144)).trans (((cf gb144 (fl hw147_0 GW144)).trans (((cf gb144 (fl hw147_0 GW144)).trans (hHeld.2.2.2.2.2.2.2))))))))))))))⟩ (fun hHeld => ?_); clear hK K; refine done_ (done_of HT_.out (by kernel_rfl)) ?_; (try go_wp2); refine bodyPost_ret (results_cell_row rfl _ _ gb144 108 #[.int .i64 ((rd_T66 l0_1 a1).f0), .int .i64 ((rd_T66 l0_1 a1).f1), .int .i64 ((rd_T66 l0_1 a1).f2), .int .i64 ((rd_T66 l0_1 a1).f3.f0), .int .i64 ((rd_T66 l0_1 a1).f3.f1), .int .i64 a2, .int .i64 (rd l0_0 ((rd_T66 l0_1 a1).f2))] (0, 0) _ rfl (by refine uK ?_; refine blk_put (cs := #[.int .i64 ((rd_T66 l0_1 a1).f0), .int .i64 ((rd_T66 l0_1 a1).f1), .int .i64 ((rd_T66 l0_1 a1).f2), .int .i64 ((rd_T66 l0_1 a1).f3.f0), .int .i64 ((rd_T66 l0_1 a1).f3.f1), .int .i64 a2, .int .i64 0]) ?_ 6 _ rfl; refine uK ?_; refine blk_put (cs := #[.int .i64 ((rd_T66 l0_1 a1).f0), .int .i64 ((rd_T66 l0_1 a1).f1), .int .i64 ((rd_T66 l0_1 a1).f2), .int .i64 ((rd_T66 l0_1 a1).f3.f0), .int .i64 ((rd_T66 l0_1 a1).f3.f1), .int .i64 0, .int .i64 0]) ?_ 5 _ rfl; refine uK ?_; refine blk_put (cs := #[.int .i64 ((rd_T66 l0_1 a1).f0), .int .i64 ((rd_T66 l0_1 a1).f1), .int .i64 ((rd_T66 l0_1 a1).f2), .int .i64 ((rd_T66 l0_1 a1).f3.f0), .int .i64 0, .int .i64 0, .int .i64 0]) ?_ 4 _ rfl; refine uK ?_; refine blk_put (cs := #[.int .i64 ((rd_T66 l0_1 a1).f0), .int .i64 ((rd_T66 l0_1 a1).f1), .int .i64 ((rd_T66 l0_1 a1).f2), .int .i64 0, .int .i64 0, .int .i64 0, .int .i64 0]) ?_ 3 _ rfl; refine uK ?_; refine blk_put (cs := #[.int .i64 ((rd_T66 l0_1 a1).f0), .int .i64 ((rd_T66 l0_1 a1).f1), .int .i64 0, .int .i64 0, .int .i64 0, .int .i64 0, .int .i64 0]) ?_ 2 _ rfl; refine uK ?_; refine blk_put (cs := #[.int .i64 ((rd_T66 l0_1 a1).f0), .int .i64 0, .int .i64 0, .int .i64 0, .int .i64 0, .int .i64 0, .int .i64 0]) ?_ 1 _ rfl; refine uK ?_; refine blk_put (cs := #[.int .i64 0, .int .i64 0, .int .i64 0, .int .i64 0, .int .i64 0, .int .i64 0, .int .i64 0]) ?_ 0 _ rfl; refine uK ?_; exact BK144.out) Tryz.underlying108 rfl (by kernel_rfl)) rfl ?_; exact ⟨uE, uB⟩
end Go.Proofs.YtdmdahafiiggiabGreatDoor.K
end
section
namespace Go.Proofs.YtdmdahafiiggiabGreatDoor.K
open Go.RowKit Go.Proofs.YtdmdahafiiggiabGreatDoorW.PrintWords Go.Proofs.YtdmdahafiiggiabGreatDoorW.PrintLast Go.Proofs.YtdmdahafiiggiabGreatDoorW.PrintMore
attribute [local go_sem] max2_int min2_int max_two min_two max_three min_three max_four min_four
def channel_aged_cups.f (a0_0 : Int) (a0_1 : Int) (a0_2 : Int) (a0_3 : Int) (a0_4 : Int) (a0_5 : Int) (a0_6 : Int) (a1 : Int) : Option (Int) := some (wrap64 ((wrap64 ((mx 0 (wrap64 (a0_0 - (wrap64 (2 * (wrap64 (Int.tdiv (wrap64 (a1 * a0_5)) 100))))))) * (mx 0 (wrap64 (a0_1 - (wrap64 (Int.tdiv (wrap64 (a1 * a0_5)) 100))))))) * a0_6))
set_option maxHeartbeats 8000000 in
set_option maxRecDepth 100000 in
theorem channel_aged_cups.calls (a0_0 : Int) (a0_1 : Int) (a0_2 : Int) (a0_3 : Int) (a0_4 : Int) (a0_5 : Int) (a0_6 : Int) (a1 : Int) (r : Int) (w : World) (h : channel_aged_cups.f a0_0 a0_1 a0_2 a0_3 a0_4 a0_5 a0_6 a1 = some r) :
  Calls Tryz.prog 121 #[.agg #[.int .i64 a0_0, .int .i64 a0_1, .int .i64 a0_2, .int .i64 a0_3, .int .i64 a0_4, .int .i64 a0_5, .int .i64 a0_6], .int .i64 a1] w fun e w' => e = .returned (.int .i64 r) ∧ Below w.heap.size w w' := by
 have hu108 := Tryz.underlying108; have HB := Aside0.mk (Below.refl w.heap.size w); have H : (some (wrap64 ((wrap64 ((mx 0 (wrap64 (a0_0 - (wrap64 (2 * (wrap64 (Int.tdiv (wrap64 (a1 * a0_5)) 100))))))) * (mx 0 (wrap64 (a0_1 - (wrap64 (Int.tdiv (wrap64 (a1 * a0_5)) 100))))))) * a0_6))) = some r := h; clear h; obtain ⟨ji3, hji3⟩ : ∃ j_ : Int, (mx 0 (wrap64 (a0_0 - (wrap64 (2 * (wrap64 (Int.tdiv (wrap64 (a1 * a0_5)) 100))))))) = j_ := ⟨_, rfl⟩; replace H : (some (wrap64 ((wrap64 ((ji3) * (mx 0 (wrap64 (a0_1 - (wrap64 (Int.tdiv (wrap64 (a1 * a0_5)) 100))))))) * a0_6))) = some r := by first | (rw [hji3] at H; exact H) | (simp only [hji3] at H ⊢; exact H)
 (try (have hji3l : 0 ≤ ji3 := by (rw [← hji3]; unfold mx; (repeat' split) <;> omega))); (try (have hji3m : 0 ≤ ji3 := by omega)); have hji3_ : (if 0 < (wrap64 (a0_0 - (wrap64 (2 * (wrap64 (Int.tdiv (wrap64 (a1 * a0_5)) 100)))))) then (wrap64 (a0_0 - (wrap64 (2 * (wrap64 (Int.tdiv (wrap64 (a1 * a0_5)) 100)))))) else 0) = ji3 := hji3; obtain ⟨ji4, hji4⟩ : ∃ j_ : Int, (mx 0 (wrap64 (a0_1 - (wrap64 (Int.tdiv (wrap64 (a1 * a0_5)) 100))))) = j_ := ⟨_, rfl⟩; replace H : (some (wrap64 ((wrap64 ((ji3) * (ji4))) * a0_6))) = some r := by first | (rw [hji4] at H; exact H) | (simp only [hji4] at H ⊢; exact H)
 (try (have hji4l : 0 ≤ ji4 := by (rw [← hji4]; unfold mx; (repeat' split) <;> omega))); (try (have hji4m : 0 ≤ ji4 := by omega)); have hji4_ : (if 0 < (wrap64 (a0_1 - (wrap64 (Int.tdiv (wrap64 (a1 * a0_5)) 100)))) then (wrap64 (a0_1 - (wrap64 (Int.tdiv (wrap64 (a1 * a0_5)) 100)))) else 0) = ji4 := hji4; obtain rfl := Option.some.inj H
 go_enter Tryz.func121, Tryz.ntmps121
 go_wp2_with (first | ((with_reducible refine gate_dst (N := 2) rfl ?_); refine bxe 2 #[.int .i64 a0_0, .int .i64 a0_1, .int .i64 a0_2, .int .i64 a0_3, .int .i64 a0_4, .int .i64 a0_5, .int .i64 a0_6] 108 ?_; intro gb101 hg w5 hbox hb; have n0_ := Aside0.mk (below_step uB hb); have n1_ := Aside0.mk (hbox); have n2_ := gw hg; have n3_ := gw hg; clear HB; have HB := n0_; have BK101 := n1_; have GW101 := n2_; have GE101 := n3_; clear n0_ n1_ n2_ n3_; clear hb hbox hg; obtain ⟨hcz6_0, hcz6_1, hcz6_2, hcz6_3, hcz6_4, hcz6_5, hcz6_6⟩ := cz7 BK101.out; obtain ⟨hfz6_0, hfz6_1, hfz6_2, hfz6_3, hfz6_4, hfz6_5, hfz6_6⟩ := fz7 BK101.out))
 go_ret; exact ⟨by first | rfl | (simp [errW_none, errW_some] <;> rfl) | (simp only [← hji3, ← hji4]; first | rfl | (simp [errW_none, errW_some] <;> rfl)) | (simp [*, errW_none, errW_some] <;> rfl), uB⟩
end Go.Proofs.YtdmdahafiiggiabGreatDoor.K
end
section
namespace Go.Proofs.YtdmdahafiiggiabGreatDoor.K
open Go.RowKit Go.Proofs.YtdmdahafiiggiabGreatDoorW.PrintWords Go.Proofs.YtdmdahafiiggiabGreatDoorW.PrintLast Go.Proofs.YtdmdahafiiggiabGreatDoorW.PrintMore
attribute [local go_sem] max2_int min2_int max_two min_two max_three min_three max_four min_four
def channel_aged_least.f (a0_0 : Int) (a0_1 : Int) (a0_2 : Int) (a0_3 : Int) (a0_4 : Int) (a0_5 : Int) (a0_6 : Int) : Option (Int) := (channel_aged_cups.f a0_0 a0_1 a0_2 a0_3 a0_4 a0_5 a0_6 a0_4).bind fun t204 => (some t204)
set_option maxHeartbeats 8000000 in
set_option maxRecDepth 100000 in
theorem channel_aged_least.calls (a0_0 : Int) (a0_1 : Int) (a0_2 : Int) (a0_3 : Int) (a0_4 : Int) (a0_5 : Int) (a0_6 : Int) (r : Int) (w : World) (h : channel_aged_least.f a0_0 a0_1 a0_2 a0_3 a0_4 a0_5 a0_6 = some r) :
  Calls Tryz.prog 87 #[.agg #[.int .i64 a0_0, .int .i64 a0_1, .int .i64 a0_2, .int .i64 a0_3, .int .i64 a0_4, .int .i64 a0_5, .int .i64 a0_6]] w fun e w' => e = .returned (.int .i64 r) ∧ Below w.heap.size w w' := by
 have hu108 := Tryz.underlying108; have HB := Aside0.mk (Below.refl w.heap.size w); have H : ((channel_aged_cups.f a0_0 a0_1 a0_2 a0_3 a0_4 a0_5 a0_6 a0_4).bind fun t204 => (some t204)) = some r := h; clear h; replace H := Option.bind_eq_some_iff.mp H; obtain ⟨t204, A20, H⟩ := H; replace H : (some t204) = some r := H; have A2 := Aside0.mk A20; clear A20; obtain rfl := Option.some.inj H
 go_enter Tryz.func87, Tryz.ntmps87
 go_wp2_with (first | ((with_reducible refine gate_dst (N := 1) rfl ?_); refine bxe 1 #[.int .i64 a0_0, .int .i64 a0_1, .int .i64 a0_2, .int .i64 a0_3, .int .i64 a0_4, .int .i64 a0_5, .int .i64 a0_6] 108 ?_; intro gb203 hg w3 hbox hb; have n0_ := Aside0.mk (below_step uB hb); have n1_ := Aside0.mk (hbox); have n2_ := gw hg; have n3_ := gw hg; clear HB; have HB := n0_; have BK203 := n1_; have GW203 := n2_; have GE203 := n3_; clear n0_ n1_ n2_ n3_; clear hb hbox hg; obtain ⟨hcz4_0, hcz4_1, hcz4_2, hcz4_3, hcz4_4, hcz4_5, hcz4_6⟩ := cz7 BK203.out; obtain ⟨hfz4_0, hfz4_1, hfz4_2, hfz4_3, hfz4_4, hfz4_5, hfz4_6⟩ := fz7 BK203.out) | ((with_reducible refine gate_callee (f := 121) rfl ?_); refine goesL_ (some 8) rfl rfl Tryz.func121 (by kernel_rfl) rfl #[.agg #[.int .i64 a0_0, .int .i64 a0_1, .int .i64 a0_2, .int .i64 a0_3, .int .i64 a0_4, .int .i64 a0_5, .int .i64 a0_6], .int .i64 a0_4] rfl uM ?_; (with_reducible refine (channel_aged_cups.calls a0_0 a0_1 a0_2 a0_3 a0_4 a0_5 a0_6 a0_4 t204 _ A2.out).mono ?_); rintro e w5 ⟨rfl, hb⟩; refine ⟨_, rfl, ?_⟩; replace BK203 := Aside0.mk (blk_below (uK BK203.out) hb); replace HB := Aside0.mk (below_step uB hb); (try clear hb); (try clear hb2); (try clear hk); (try clear hi)))
 go_ret; exact ⟨uE, uB⟩
end Go.Proofs.YtdmdahafiiggiabGreatDoor.K
end
section
namespace Go.Proofs.YtdmdahafiiggiabGreatDoor.K
open Go.RowKit Go.Proofs.YtdmdahafiiggiabGreatDoorW.PrintWords Go.Proofs.YtdmdahafiiggiabGreatDoorW.PrintLast Go.Proofs.YtdmdahafiiggiabGreatDoorW.PrintMore
attribute [local go_sem] max2_int min2_int max_two min_two max_three min_three max_four min_four
def channel_latest.l0 : Nat → Int → Int → Int → Int → List Int → List (S66) → Option (Int)
 | 0, _, _, _, _, _, _ => none
 | k + 1, x1, x2, x7, x9, x206000, x206001 => if x9 < 201 then ((channel_aging.f x206000 x206001 x1 x9).bind fun bt206 => ((channel_aged_least.f bt206.1 bt206.2.1 bt206.2.2.1 bt206.2.2.2.1 bt206.2.2.2.2.1 bt206.2.2.2.2.2.1 bt206.2.2.2.2.2.2).bind fun t213 => (if t213 < x2 then (some x7) else (channel_latest.l0 k x1 x2 x9 (wrap64 (x9 + 1)) x206000 x206001)))) else (some x7)
def channel_latest.f (k : Nat) (l0_0 : List Int) (l0_1 : List (S66)) (a1 : Int) (a2 : Int) : Option (Int) := channel_latest.l0 k a1 a2 (-1) 0 l0_0 l0_1
set_option maxHeartbeats 8000000 in
set_option maxRecDepth 100000 in
theorem channel_latest.calls (k : Nat) (A0_0 : Option Addr) (c0_0 : Nat) (l0_0 : List Int) (A0_1 : Option Addr) (c0_1 : Nat) (l0_1 : List (S66)) (a1 : Int) (a2 : Int) (r : Int) (w : World) (hr0_0 : Kd.C (Kd.int .i64) w A0_0 l0_0.length l0_0) (hc0_0 : l0_0.length ≤ c0_0) (hr0_1 : Kd.C k66 w A0_1 l0_1.length l0_1) (hc0_1 : l0_1.length ≤ c0_1) (h : channel_latest.f k l0_0 l0_1 a1 a2 = some r) :
  Calls Tryz.prog 78 #[.agg #[.slice A0_0 l0_0.length c0_0, .slice A0_1 l0_1.length c0_1], .int .i64 a1, .int .i64 a2] w fun e w' => e = .returned (.int .i64 r) ∧ Below w.heap.size w w' := by
 have hu60 := Tryz.underlying60; have HR0_0 := Aside0.mk hr0_0; have HC0_0 := Aside0.mk hc0_0; clear hr0_0 hc0_0; have HR0_1 := Aside0.mk hr0_1; have HC0_1 := Aside0.mk hc0_1; clear hr0_1 hc0_1; have HB := Aside0.mk (Below.refl w.heap.size w); have H : (channel_latest.l0 k a1 a2 (-1) 0 l0_0 l0_1) = some r := h; clear h; have H' := Aside0.mk H; clear H
 go_enter Tryz.func78, Tryz.ntmps78
 go_wp2_with (first | ((with_reducible refine gate_dst (N := 3) rfl ?_); refine bxe 3 #[.slice A0_0 l0_0.length c0_0, .slice A0_1 l0_1.length c0_1] 60 ?_; intro gb205 hg w4 hbox hb; have n0_ := Aside0.mk (below_step uB hb); have n1_ := Aside0.mk (hbox); have n2_ := gw hg; have n3_ := gw hg; clear HB; have HB := n0_; have BK205 := n1_; have GW205 := n2_; have GE205 := n3_; clear n0_ n1_ n2_ n3_; clear hb hbox hg))
 go_loopg [7, 9] k (fun kq v7 v9 w' => ∃ (x7_1 : Int) (x9_1 : Int), v7 = .int .i64 x7_1 ∧ v9 = .int .i64 x9_1 ∧ Aside0 (channel_latest.l0 kq a1 a2 x7_1 x9_1 l0_0 l0_1 = some r) ∧ Aside0 (kq ≤ k) ∧ Aside0 (w'.heap[gb205]? = some (.cells #[(.slice A0_0 l0_0.length c0_0), (.slice A0_1 l0_1.length c0_1)] 60 (0, 0))) ∧ Aside0 (Below w.heap.size w w'))
 case atStart => exact ⟨((-1)), (0), u0, u0, H', ⟨Nat.le_refl _⟩, ⟨uK BK205.out⟩, ⟨uB⟩⟩
 case round =>
  clear H'; (try clear p2); obtain ⟨x7_1, x9_1, rfl, rfl, HA, HK1, BK205, HB⟩ := hrel
  cases gk with
  | zero => exact absurd HA.out (by simp [channel_latest.l0])
  | succ k1 =>
   have H := HA.out; clear HA; simp only [channel_latest.l0] at H
   by_cases c5 : x9_1 < 201
   ·rw [if_pos c5] at H; replace c5 := decide_eq_true c5; replace H := Option.bind_eq_some_iff.mp H; obtain ⟨⟨t206, t207, t208, t209, t210, t211, t212⟩, A60, H⟩ := H; replace H : ((channel_aged_least.f t206 t207 t208 t209 t210 t211 t212).bind fun t213 => (if t213 < a2 then (some x7_1) else (channel_latest.l0 k1 a1 a2 x9_1 (wrap64 (x9_1 + 1)) l0_0 l0_1))) = some r := H; have A6 := Aside0.mk A60; clear A60; replace H := Option.bind_eq_some_iff.mp H; obtain ⟨t213, A70, H⟩ := H; replace H : (if t213 < a2 then (some x7_1) else (channel_latest.l0 k1 a1 a2 x9_1 (wrap64 (x9_1 + 1)) l0_0 l0_1)) = some r := H; have A7 := Aside0.mk A70; clear A70
    by_cases c8 : t213 < a2
    ·rw [if_pos c8] at H; replace c8 := decide_eq_true c8; obtain rfl := Option.some.inj H; obtain ⟨hcz9_0, hcz9_1⟩ := cz2 BK205.out; obtain ⟨hfz9_0, hfz9_1⟩ := fz2 BK205.out
     go_wp2_with (first | ((with_reducible refine gate_callee (f := 72) rfl ?_); refine goesL_ (some 15) rfl rfl Tryz.func72 (by kernel_rfl) rfl #[.agg #[.slice A0_0 l0_0.length c0_0, .slice A0_1 l0_1.length c0_1], .int .i64 a1, .int .i64 x9_1] rfl uM ?_; (with_reducible refine (channel_aging.calls _ _ l0_0 _ _ l0_1 a1 x9_1 t206 t207 t208 t209 t210 t211 t212 _ ?side1 ?side2 ?side3 ?side4 A6.out).mono ?_); (case side1 => repeat (first | exact (Kd.C_below HR0_0.out HB.out) | (with_reducible refine Kd.C_alloc ?_ _) | (with_reducible refine Kd.C_drewN ?_ _) | (with_reducible refine Kd.C_drew ?_))); (case side2 => exact HC0_0.out); (case side3 => repeat (first | exact (Kd.C_below HR0_1.out HB.out) | (with_reducible refine Kd.C_alloc ?_ _) | (with_reducible refine Kd.C_drewN ?_ _) | (with_reducible refine Kd.C_drew ?_))); (case side4 => exact HC0_1.out); rintro e w10 ⟨rfl, hb⟩; refine ⟨_, rfl, ?_⟩; replace BK205 := Aside0.mk (blk_below (uK BK205.out) hb); replace HB := Aside0.mk (below_step uB hb); (try clear hb); (try clear hb2); (try clear hk); (try clear hi)) | ((with_reducible refine gate_callee (f := 87) rfl ?_); refine goesL_ (some 16) rfl rfl Tryz.func87 (by kernel_rfl) rfl #[.agg #[.int .i64 t206, .int .i64 t207, .int .i64 t208, .int .i64 t209, .int .i64 t210, .int .i64 t211, .int .i64 t212]] rfl uM ?_; (with_reducible refine (channel_aged_least.calls t206 t207 t208 t209 t210 t211 t212 t213 _ A7.out).mono ?_); rintro e w11 ⟨rfl, hb⟩; refine ⟨_, rfl, ?_⟩; replace BK205 := Aside0.mk (blk_below (uK BK205.out) hb); replace HB := Aside0.mk (below_step uB hb); (try clear hb); (try clear hb2); (try clear hk); (try clear hi)))
     go_ret; exact ⟨uE, uB⟩
    ·rw [if_neg c8] at H; replace c8 := decide_eq_false c8; have H' := Aside0.mk H; clear H; obtain ⟨hcz12_0, hcz12_1⟩ := cz2 BK205.out; obtain ⟨hfz12_0, hfz12_1⟩ := fz2 BK205.out
     go_wp2_with (first | ((with_reducible refine gate_callee (f := 72) rfl ?_); refine goesL_ (some 15) rfl rfl Tryz.func72 (by kernel_rfl) rfl #[.agg #[.slice A0_0 l0_0.length c0_0, .slice A0_1 l0_1.length c0_1], .int .i64 a1, .int .i64 x9_1] rfl uM ?_; (with_reducible refine (channel_aging.calls _ _ l0_0 _ _ l0_1 a1 x9_1 t206 t207 t208 t209 t210 t211 t212 _ ?side1 ?side2 ?side3 ?side4 A6.out).mono ?_); (case side1 => repeat (first | exact (Kd.C_below HR0_0.out HB.out) | (with_reducible refine Kd.C_alloc ?_ _) | (with_reducible refine Kd.C_drewN ?_ _) | (with_reducible refine Kd.C_drew ?_))); (case side2 => exact HC0_0.out); (case side3 => repeat (first | exact (Kd.C_below HR0_1.out HB.out) | (with_reducible refine Kd.C_alloc ?_ _) | (with_reducible refine Kd.C_drewN ?_ _) | (with_reducible refine Kd.C_drew ?_))); (case side4 => exact HC0_1.out); rintro e w13 ⟨rfl, hb⟩; refine ⟨_, rfl, ?_⟩; replace BK205 := Aside0.mk (blk_below (uK BK205.out) hb); replace HB := Aside0.mk (below_step uB hb); (try clear hb); (try clear hb2); (try clear hk); (try clear hi)) | ((with_reducible refine gate_callee (f := 87) rfl ?_); refine goesL_ (some 16) rfl rfl Tryz.func87 (by kernel_rfl) rfl #[.agg #[.int .i64 t206, .int .i64 t207, .int .i64 t208, .int .i64 t209, .int .i64 t210, .int .i64 t211, .int .i64 t212]] rfl uM ?_; (with_reducible refine (channel_aged_least.calls t206 t207 t208 t209 t210 t211 t212 t213 _ A7.out).mono ?_); rintro e w14 ⟨rfl, hb⟩; refine ⟨_, rfl, ?_⟩; replace BK205 := Aside0.mk (blk_below (uK BK205.out) hb); replace HB := Aside0.mk (below_step uB hb); (try clear hb); (try clear hb2); (try clear hk); (try clear hi)))
     go_roundg k1
     case measure => have := HK1.out; omega
     case rel => exact ⟨(x9_1), (wrap64 (x9_1 + 1)), u0, u0, H', ⟨by have := HK1.out; omega⟩, ⟨uK BK205.out⟩, ⟨uB⟩⟩
   ·rw [if_neg c5] at H; replace c5 := decide_eq_false c5; obtain rfl := Option.some.inj H; go_wp2; go_ret; exact ⟨uE, uB⟩
end Go.Proofs.YtdmdahafiiggiabGreatDoor.K
end
section
namespace Go.Proofs.YtdmdahafiiggiabGreatDoor.K
open Go.RowKit Go.Proofs.YtdmdahafiiggiabGreatDoorW.PrintWords Go.Proofs.YtdmdahafiiggiabGreatDoorW.PrintLast Go.Proofs.YtdmdahafiiggiabGreatDoorW.PrintMore
attribute [local go_sem] max2_int min2_int max_two min_two max_three min_three max_four min_four
mutual
def channel_greatest.l0 : Nat → List Int → List Int → Int → Option (List Int × Bool)
 | 0, _, _, _ => none
 | k + 1, x0, x4, x5 => if x5 ≥ 0 then (channel_greatest.j1 k x0 x4 x5 (decide ((x4.length : Int) < (x0.length : Int)))) else (channel_greatest.j1 k x0 x4 x5 false)
def channel_greatest.j1 : Nat → List Int → List Int → Int → Bool → Option (List Int × Bool)
 | 0, _, _, _, _ => none
 | k + 1, x0, x4, x5, x17 => if x17 = true then (channel_greatest.l1 k x0 x4 x5 0 x0 (x0.length : Int) 0) else (some (x4, ((x4.length : Int) == (x0.length : Int))))
def channel_greatest.l1 : Nat → List Int → List Int → Int → Int → List Int → Int → Int → Option (List Int × Bool)
 | 0, _, _, _, _, _, _, _ => none
 | k + 1, x0, x4, x5, x6, x20, x21, x22 => if x22 < x21 then (if 0 ≤ x22 then (if x22 < (x20.length : Int) then (if (rd x20 x22) ≥ x5 then (channel_greatest.l1 k x0 x4 x5 (wrap64 (x6 + 1)) x20 x21 (wrap64 (x22 + 1))) else (channel_greatest.l1 k x0 x4 x5 x6 x20 x21 (wrap64 (x22 + 1)))) else (none)) else (none)) else (if x6 > (x4.length : Int) then (if x4.length < 17592186044416 then (channel_greatest.l0 k x0 (x4 ++ [x5]) (wrap64 (x5 - 1))) else (none)) else (channel_greatest.l0 k x0 x4 (wrap64 (x5 - 1))))
end
def channel_greatest.f (k : Nat) (l0 : List Int) : Option (List Int × Bool) := channel_greatest.l0 k l0 ([] : List Int) 40
set_option maxHeartbeats 8000000 in
set_option maxRecDepth 100000 in
theorem channel_greatest.calls (k : Nat) (A0 : Option Addr) (c0 : Nat) (l0 : List Int) (r1 : List Int) (r2 : Bool) (w : World) (hr0 : Kd.C (Kd.int .i64) w A0 l0.length l0) (hc0 : l0.length ≤ c0) (h : channel_greatest.f k l0 = some (r1, r2)) :
  Calls Tryz.prog 88 #[.slice A0 l0.length c0] w fun e w' => ∃ v0_ : Value, e = .returned (.tuple #[v0_, .bool r2]) ∧ Kd.R (Kd.int .i64) 3 w' w.heap.size (fun _ => True) v0_ r1 ∧ Below w.heap.size w w' := by
 have HR0 := Aside0.mk hr0; have HC0 := Aside0.mk hc0; clear hr0 hc0; have HB := Aside0.mk (Below.refl w.heap.size w); have H : (channel_greatest.l0 k l0 ([] : List Int) 40) = some (r1, r2) := h; clear h; have H' := Aside0.mk H; clear H
 go_enter Tryz.func88, Tryz.ntmps88
 go_wp2
 go_loopg [4, 5] k (fun kq v4 v5 w' => ∃ (x4_1 : List Int) (x5_1 : Int), v5 = .int .i64 x5_1 ∧ Aside0 (channel_greatest.l0 kq l0 x4_1 x5_1 = some (r1, r2)) ∧ Aside0 (kq ≤ k) ∧ Aside0 (Kd.R (Kd.int .i64) 3 w' w.heap.size (fun _ => True) v4 x4_1) ∧ Aside0 (Below w.heap.size w w'))
 case atStart => exact ⟨(([] : List Int)), (40), u0, H', ⟨Nat.le_refl _⟩, ⟨uN⟩, ⟨uB⟩⟩
 case round =>
  clear H'; obtain ⟨x4_1, x5_1, rfl, HA, HK1, HO_4, HB⟩ := hrel
  cases gk with
  | zero => exact absurd HA.out (by simp [channel_greatest.l0])
  | succ k1 =>
   have H := HA.out; clear HA; simp only [channel_greatest.l0] at H; have HC2 := Aside0.mk H; clear H
   go_upto_region 3 with (fail)
   go_cut [17] (fun v17 wc => ∃ (kq : Nat) (x17_1 : Bool), v17 = .bool x17_1 ∧ Aside0 (channel_greatest.j1 kq l0 x4_1 x5_1 x17_1 = some (r1, r2)) ∧ Aside0 (kq ≤ k1) ∧ Aside0 (Kd.R (Kd.int .i64) 3 wc w.heap.size (fun _ => True) u4 x4_1) ∧ Aside0 (Below w.heap.size w wc))
   case first =>
    have H := HC2.out; clear HC2
    by_cases c3 : x5_1 ≥ 0
    ·rw [if_pos c3] at H; replace c3 := decide_eq_true c3; (first | rw [c3b0] | (simp only [i64_w, i32_w]; rw [c3b0]) | skip); have H' := Aside0.mk H; clear H; obtain ⟨Ao4, co4, eo4⟩ := Kd.R_slice HO_4.out; subst eo4; go_wp2
     go_meet
     case rel => exact ⟨_, (decide ((x4_1.length : Int) < (l0.length : Int))), u0, H', ⟨by have := HK1.out; first | omega | exact Nat.le_refl _⟩, ⟨uR HO_4.out⟩, ⟨uB⟩⟩
    ·rw [if_neg c3] at H; replace c3 := decide_eq_false c3; (first | rw [c3b0] | (simp only [i64_w, i32_w]; rw [c3b0]) | skip); have H' := Aside0.mk H; clear H; go_wp2
     go_meet
     case rel => exact ⟨_, (false), u0, H', ⟨by have := HK1.out; first | omega | exact Nat.le_refl _⟩, ⟨uR HO_4.out⟩, ⟨uB⟩⟩
   case rest =>
    clear HC2; try clear p2; try clear c3; try clear c3b0
    obtain ⟨kq, x17_1, rfl, HA, HJ1, HO_4, HB⟩ := hcut
    cases kq with
    | zero => exact absurd HA.out (by simp [channel_greatest.j1])
    | succ kj1 =>
     have H := HA.out; clear HA; simp only [channel_greatest.j1] at H
     by_cases c5 : x17_1 = true
     ·subst c5; have H1 : (channel_greatest.l1 kj1 l0 x4_1 x5_1 0 l0 (l0.length : Int) 0) = some (r1, r2) := by rw [if_pos rfl] at H; exact H
      clear H; have H := H1; clear H1; have H' := Aside0.mk H; clear H; go_wp2
      go_loopg [6, 22] kj1 (fun kq v6 v22 w' => ∃ (x6_3 : Int) (x22_3 : Int), v6 = .int .i64 x6_3 ∧ v22 = .int .i64 x22_3 ∧ Aside0 (channel_greatest.l1 kq l0 x4_1 x5_1 x6_3 l0 (l0.length : Int) x22_3 = some (r1, r2)) ∧ Aside0 (kq ≤ kj1) ∧ Aside0 (Kd.R (Kd.int .i64) 3 w' w.heap.size (fun _ => True) u4 x4_1) ∧ Aside0 (Below w.heap.size w w'))
      case atStart => exact ⟨(0), (0), u0, u0, H', ⟨Nat.le_refl _⟩, ⟨uR HO_4.out⟩, ⟨uB⟩⟩
      case round =>
       clear H'; try clear p2; try clear c3; try clear c3b0; try clear c5; try clear p2
       obtain ⟨x6_3, x22_3, rfl, rfl, HA, HK3, HO_4, HB⟩ := hrel
       cases gk with
       | zero => exact absurd HA.out (by simp [channel_greatest.l1])
       | succ k3 =>
        have H := HA.out; clear HA; simp only [channel_greatest.l1] at H
        by_cases c6 : x22_3 < (l0.length : Int)
        ·rw [if_pos c6] at H; replace c6 := decide_eq_true c6; obtain ⟨c7, H⟩ := ifs H; replace c7 := decide_eq_true c7; obtain ⟨c8, H⟩ := ifs H; replace c8 := decide_eq_true c8
         by_cases c9 : (rd l0 x22_3) ≥ x5_1
         ·rw [if_pos c9] at H; replace c9 := decide_eq_true c9; have H' := Aside0.mk H; clear H; have p264 : 0 ≤ (x22_3 : Int) := uD; have q264 : x22_3 < (l0.length : Int) := uD; obtain ⟨ad264, e264, hx264_0⟩ := Kd.at_int HR0.out x22_3 p264 q264
          cases e264
          replace hx264_0 := hcell HB.out hx264_0; replace p264 := eq_true p264; replace q264 := eq_true q264; go_wp2
          go_roundg k3
          case measure => have := HK1.out; have := HJ1.out; have := HK3.out; omega
          case rel => exact ⟨(wrap64 (x6_3 + 1)), (wrap64 (x22_3 + 1)), u0, u0, H', ⟨by have := HK1.out; have := HJ1.out; have := HK3.out; omega⟩, ⟨uR HO_4.out⟩, ⟨uB⟩⟩
         ·rw [if_neg c9] at H; replace c9 := decide_eq_false c9; have H' := Aside0.mk H; clear H; have p264 : 0 ≤ (x22_3 : Int) := uD; have q264 : x22_3 < (l0.length : Int) := uD; obtain ⟨ad264, e264, hx264_0⟩ := Kd.at_int HR0.out x22_3 p264 q264
          cases e264
          replace hx264_0 := hcell HB.out hx264_0; replace p264 := eq_true p264; replace q264 := eq_true q264; go_wp2
          go_roundg k3
          case measure => have := HK1.out; have := HJ1.out; have := HK3.out; omega
          case rel => exact ⟨(x6_3), (wrap64 (x22_3 + 1)), u0, u0, H', ⟨by have := HK1.out; have := HJ1.out; have := HK3.out; omega⟩, ⟨uR HO_4.out⟩, ⟨uB⟩⟩
        ·rw [if_neg c6] at H; replace c6 := decide_eq_false c6
         by_cases c10 : x6_3 > (x4_1.length : Int)
         ·rw [if_pos c10] at H; replace c10 := decide_eq_true c10; obtain ⟨c11, H⟩ := ifs H; have LMc11 := Aside0.mk c11; clear c11; obtain ⟨y265, hy265⟩ : ∃ y_ : List Int, y_ = (x4_1 ++ [x5_1]) := ⟨_, rfl⟩; rw [← hy265] at H; (try replace H := (Option.bind_some _ _).symm.trans H)
          have Ny265 := Aside0.mk hy265; clear hy265; have H' := Aside0.mk H; clear H; obtain ⟨Ao12, co12, eo12⟩ := Kd.R_slice HO_4.out; subst eo12
          go_wp2_with (first | ((with_reducible refine gate_builtin (b := .append) (xs := #[.tmp 36, .tmp 38]) rfl ?_); (try (refine gate_guard (by rfl) ?_; dsimp only)); at_builtin; refine Kd.R_append (Kd.int .i64) (w0 := w) w.heap.size rfl (.tmp 36) (.tmp 38) 25 3 (.int .i64 0) 8 rfl Tryz.underlying25 info3 rfl (by decide) (by omega) (.slice Ao12 x4_1.length co12) x4_1 x5_1 [.int .i64 x5_1] (fun _ => True) (fun _ => False) rfl rfl ?aP (fun _ hk => hk.elim) ?aF ?aO ?aB ?aS ?aL ?_; (case aP => exact rfl); (case aB => exact uB); (case aF => exact (fun _ _ => trivial)); (case aO => exact (uR HO_4.out)); (case aS => exact (below_size uB)); (case aL => have := LMc11.out; omega); intro v266 w13 ho hb hg hat; rw [← Ny265.out] at ho; have HO267 := Aside0.mk (ho); replace HB := Aside0.mk (hb); clear HO_4; clear ho hb hg hat))
          go_roundg k3
          case measure => have := HK1.out; have := HJ1.out; have := HK3.out; omega
          case rel => exact ⟨(y265), (wrap64 (x5_1 - 1)), u0, H', ⟨by have := HK1.out; have := HJ1.out; have := HK3.out; omega⟩, ⟨uR HO267.out⟩, ⟨uB⟩⟩
         ·rw [if_neg c10] at H; replace c10 := decide_eq_false c10; have H' := Aside0.mk H; clear H; obtain ⟨Ao14, co14, eo14⟩ := Kd.R_slice HO_4.out; subst eo14; go_wp2
          go_roundg k3
          case measure => have := HK1.out; have := HJ1.out; have := HK3.out; omega
          case rel => exact ⟨(x4_1), (wrap64 (x5_1 - 1)), u0, H', ⟨by have := HK1.out; have := HJ1.out; have := HK3.out; omega⟩, ⟨uR HO_4.out⟩, ⟨uB⟩⟩
     ·replace c5 := Bool.eq_false_iff.mpr c5; subst c5; have H1 : (some (x4_1, ((x4_1.length : Int) == (l0.length : Int)))) = some (r1, r2) := by rw [if_neg (show ¬ (false = true) by decide)] at H; exact H
      clear H; have H := H1; clear H1; simp only [Option.some.injEq, Prod.mk.injEq] at H; obtain ⟨rfl, rfl⟩ := H; obtain ⟨Ao15, co15, eo15⟩ := Kd.R_slice HO_4.out; subst eo15; go_wp2
      go_ret2
      exact ⟨_, uE, uR HO_4.out, uB⟩
end Go.Proofs.YtdmdahafiiggiabGreatDoor.K
end
section
namespace Go.Proofs.YtdmdahafiiggiabGreatDoor.K
open Go.RowKit Go.Proofs.YtdmdahafiiggiabGreatDoorW.PrintWords Go.Proofs.YtdmdahafiiggiabGreatDoorW.PrintLast Go.Proofs.YtdmdahafiiggiabGreatDoorW.PrintMore
def carry (b d speed lime : Int) : Int := mx 0 (b - 2 * lime) * mx 0 (d - lime) * speed
def cupsN (sp : List Int) (st : List S66) (n age rate : Int) : Int := carry (rd_T66 st n).f0 (rd_T66 st n).f1 (rd sp (rd_T66 st n).f2) (rate * age / 100)
theorem mx_le {a b c : Int} (h1 : a ≤ c) (h2 : b ≤ c) : mx a b ≤ c := by unfold mx; split <;> omega
theorem mx_ge (a b : Int) : a ≤ mx a b ∧ b ≤ mx a b := by unfold mx; split <;> omega
theorem prod_range {x y z X Y Z : Int} (hx0 : 0 ≤ x) (hx : x ≤ X) (hy0 : 0 ≤ y) (hy : y ≤ Y) (hz0 : 0 ≤ z) (hz : z ≤ Z) : 0 ≤ x * y ∧ x * y ≤ X * Y ∧ 0 ≤ x * y * z ∧ x * y * z ≤ X * Y * Z := by
  have h1 : 0 ≤ x * y := Int.mul_nonneg hx0 hy0; have h2 : x * y ≤ X * Y := Int.mul_le_mul hx hy hy0 (by omega); exact ⟨h1, h2, Int.mul_nonneg h1 hz0, Int.mul_le_mul h2 hz hz0 (by have := Int.mul_nonneg (show 0 ≤ X by omega) (show 0 ≤ Y by omega); omega)⟩
theorem cups_f (b d f lo hi age speed rate : Int) (hb0 : 0 ≤ b) (hb : b ≤ 1000) (hd0 : 0 ≤ d) (hd : d ≤ 100) (ha0 : 0 ≤ age) (ha : age ≤ 200) (hs0 : 0 ≤ speed) (hs : speed ≤ 1000) (hr0 : 0 ≤ rate) (hr : rate ≤ 100) :
    channel_aged_cups.f b d f lo hi age speed rate = some (carry b d speed (rate * age / 100)) := by
  have h1 : 0 ≤ rate * age := Int.mul_nonneg hr0 ha0; have h2 : rate * age ≤ 100 * 200 := Int.mul_le_mul hr ha ha0 (by omega); unfold channel_aged_cups.f carry; have e1 : wrap64 (rate * age) = rate * age := IntWalk.wrap64_in _ (by omega); have e2 : (rate * age).tdiv 100 = rate * age / 100 := Int.tdiv_eq_ediv_of_nonneg h1; have hl0 : 0 ≤ rate * age / 100 := by omega
  have hl : rate * age / 100 ≤ 200 := by omega
  rw [e1, e2]; generalize rate * age / 100 = l at *; rw [IntWalk.wrap64_in l (by omega), IntWalk.wrap64_in (2 * l) (by omega), IntWalk.wrap64_in (b - 2 * l) (by omega), IntWalk.wrap64_in (d - l) (by omega)]; have hx := mx_ge 0 (b - 2 * l); have hx' := mx_le (show (0 : Int) ≤ 1000 by omega) (show b - 2 * l ≤ 1000 by omega); have hy := mx_ge 0 (d - l); have hy' := mx_le (show (0 : Int) ≤ 1000 by omega) (show d - l ≤ 1000 by omega); have hp := prod_range hx.1 hx' hy.1 hy' hs0 hs; rw [IntWalk.wrap64_in (mx 0 (b - 2 * l) * mx 0 (d - l)) (by omega), IntWalk.wrap64_in _ (by omega)]
structure StOk (sp : List Int) (s : S66) : Prop where
  b0 : 1 ≤ s.f0
  b1 : s.f0 ≤ 100
  d0 : 1 ≤ s.f1
  d1 : s.f1 ≤ 100
  f0 : 0 ≤ s.f2
  f1 : s.f2 < sp.length
  l0 : 0 ≤ s.f3.f0
  lh : s.f3.f0 ≤ s.f3.f1
  h1 : s.f3.f1 ≤ 100
  s0 : 1 ≤ rd sp s.f2
  s1 : rd sp s.f2 ≤ 1000
theorem line_lens {sp : List Int} {st : List S66} (h : isLineB sp st = true) : 1 ≤ sp.length ∧ sp.length ≤ 10 ∧ 1 ≤ st.length ∧ st.length ≤ 8 := by
  simp only [isLineB, inB, Bool.and_eq_true, decide_eq_true_eq] at h
  omega
theorem line_at {sp : List Int} {st : List S66} (h : isLineB sp st = true) {n : Int} (h0 : 0 ≤ n) (h1 : n < st.length) : StOk sp (rd_T66 st n) := by
  simp only [isLineB, inB, Bool.and_eq_true, decide_eq_true_eq] at h; have hlt : n.toNat < st.length := by omega
  have e : rd_T66 st n = st[n.toNat] := by simp [rd_T66, List.getD, List.getElem?_eq_getElem hlt]
  have hx := List.all_eq_true.mp h.2 _ (List.getElem_mem hlt); rw [← e] at hx; generalize rd_T66 st n = s at hx; simp only [stretchB, isSpanB, inB, Bool.and_eq_true, decide_eq_true_eq] at hx; have hf : s.f2.toNat < sp.length := by omega
  have es : rd sp s.f2 = sp[s.f2.toNat] := by simp [rd, List.getD, List.getElem?_eq_getElem hf]
  have hy := List.all_eq_true.mp h.1.2 _ (List.getElem_mem hf); rw [← es] at hy; simp only [inB, Bool.and_eq_true, decide_eq_true_eq] at hy; exact ⟨by omega, by omega, by omega, by omega, by omega, by omega, by omega, by omega, by omega, by omega, by omega⟩
theorem aging_ok {sp : List Int} {st : List S66} (h : isLineB sp st = true) {n : Int} (h0 : 0 ≤ n) (h1 : n < st.length) (age : Int) :
    channel_aging.f sp st n age = some ((rd_T66 st n).f0, (rd_T66 st n).f1, (rd_T66 st n).f2, (rd_T66 st n).f3.f0, (rd_T66 st n).f3.f1, age, rd sp (rd_T66 st n).f2) := by
  have hs := line_at h h0 h1; unfold channel_aging.f; rw [if_pos h0, if_pos h1, if_pos hs.f0, if_pos hs.f1]
def leastN (sp : List Int) (st : List S66) (n age : Int) : Int := cupsN sp st n age (rd_T66 st n).f3.f1
theorem least_ok {sp : List Int} {st : List S66} (h : isLineB sp st = true) {n : Int} (h0 : 0 ≤ n) (h1 : n < st.length) {age : Int} (a0 : 0 ≤ age) (a1 : age ≤ 200) :
    channel_aged_least.f (rd_T66 st n).f0 (rd_T66 st n).f1 (rd_T66 st n).f2 (rd_T66 st n).f3.f0 (rd_T66 st n).f3.f1 age (rd sp (rd_T66 st n).f2) = some (leastN sp st n age) := by
  have hs := line_at h h0 h1; unfold channel_aged_least.f; rw [cups_f _ _ _ _ _ _ _ _ (by have := hs.b0; omega) (by have := hs.b1; omega) (by have := hs.d0; omega) hs.d1 a0 a1 (by have := hs.s0; omega) hs.s1 (by have := hs.l0; have := hs.lh; omega) hs.h1]
  rfl
def latFrom (sp : List Int) (st : List S66) (n need : Int) : Nat → Int → Int
  | 0, age => age - 1
  | k + 1, age => if leastN sp st n age < need then age - 1 else latFrom sp st n need k (age + 1)
def latN (sp : List Int) (st : List S66) (n need : Int) : Int := latFrom sp st n need 201 0
theorem lat_range (sp : List Int) (st : List S66) (n need : Int) : ∀ (k : Nat) (age : Int), age - 1 ≤ latFrom sp st n need k age ∧ latFrom sp st n need k age ≤ age - 1 + k
  | 0, age => by simp [latFrom]
  | k + 1, age => by
    unfold latFrom; have := lat_range sp st n need k (age + 1)
    split <;> omega
theorem latN_range (sp : List Int) (st : List S66) (n need : Int) : -1 ≤ latN sp st n need ∧ latN sp st n need ≤ 200 := by
  have := lat_range sp st n need 201 0; unfold latN
  omega
theorem latest_from {sp : List Int} {st : List S66} (h : isLineB sp st = true) {n : Int} (h0 : 0 ≤ n) (h1 : n < st.length) (need : Int) : ∀ (k : Nat) (j : Nat), (k : Int) + j = 201 → ∀ K, k < K →
    channel_latest.l0 K n need ((j : Int) - 1) (j : Int) sp st = some (latFrom sp st n need k (j : Int))
  | 0, j, hj, K + 1, hK => by
    unfold channel_latest.l0 latFrom; rw [if_neg (by omega)]
  | k + 1, j, hj, K + 1, hK => by
    unfold channel_latest.l0 latFrom; rw [if_pos (by omega), aging_ok h h0 h1]; simp only [Option.bind_some]; rw [least_ok h h0 h1 (by omega) (by omega)]; simp only [Option.bind_some]
    by_cases hc : leastN sp st n j < need
    · rw [if_pos hc, if_pos hc]
    · rw [if_neg hc, if_neg hc, IntWalk.wrap64_in _ (by omega)]; have := latest_from h h0 h1 need k (j + 1) (by omega) K (by omega)
      simpa using this
theorem latest_eq {sp : List Int} {st : List S66} (h : isLineB sp st = true) {n : Int} (h0 : 0 ≤ n) (h1 : n < st.length) (need : Int) (K : Nat) (hK : 201 < K) : channel_latest.f K sp st n need = some (latN sp st n need) :=
  latest_from h h0 h1 need 201 0 (by omega) K hK
def cntGe (last : List Int) (y : Int) : Nat := last.countP fun x => decide (y ≤ x)
def grFrom (last : List Int) : Nat → Int → List Int → List Int
  | 0, _, out => out
  | k + 1, y, out => if out.length < last.length then (if out.length < cntGe last y then grFrom last k (y - 1) (out ++ [y]) else grFrom last k (y - 1) out) else out
def grN (last : List Int) : List Int := grFrom last 41 40 []
theorem gr_count {last : List Int} (hl : last.length ≤ 1000000) (out : List Int) (ho : out.length ≤ 1000000) (y : Int) (hy : y ≤ 40) (hy0 : 0 ≤ y) (K : Nat) : ∀ (d j : Nat) (c : Int), j + d = last.length → 0 ≤ c → c ≤ j →
    channel_greatest.l1 (K + d + 1) last out y c last (last.length : Int) (j : Int) = if (out.length : Int) < c + ((last.drop j).countP fun x => decide (y ≤ x) : Nat) then channel_greatest.l0 (K) last (out ++ [y]) (y - 1) else channel_greatest.l0 (K) last out (y - 1)
  | 0, j, c, hj, hc0, hc => by
    unfold channel_greatest.l1; rw [if_neg (by omega), List.drop_of_length_le (by omega), IntWalk.wrap64_in (y - 1) (by omega)]; simp only [List.countP_nil, Int.natCast_zero, Int.add_zero, Nat.add_zero]
    by_cases h : (out.length : Int) < c
    · rw [if_pos (by omega), if_pos (by omega), if_pos (by simpa using h)]
    · rw [if_neg (by omega), if_neg (by simpa using h)]
  | d + 1, j, c, hj, hc0, hc => by
    have hlt : j < last.length := by omega
    unfold channel_greatest.l1; rw [if_pos (by omega), if_pos (by omega), if_pos (by omega)]; have e : rd last (j : Int) = last[j] := by simp [rd, List.getD, List.getElem?_eq_getElem hlt]
    have hd : last.drop j = last[j] :: last.drop (j + 1) := List.drop_eq_getElem_cons hlt; rw [hd, List.countP_cons, e, IntWalk.wrap64_in ((j : Int) + 1) (by omega), IntWalk.wrap64_in (c + 1) (by omega), show K + (d + 1) = K + d + 1 from rfl]
    by_cases h : y ≤ last[j]
    · rw [if_pos (by omega)]; have := gr_count hl out ho y hy hy0 K d (j + 1) (c + 1) (by omega) (by omega) (by omega); rw [Int.natCast_add, Int.natCast_one] at this; rw [this]; simp only [h, decide_true, if_true]
      congr 1
      simp; omega
    · rw [if_neg (by omega)]; have := gr_count hl out ho y hy hy0 K d (j + 1) c (by omega) hc0 (by omega); rw [Int.natCast_add, Int.natCast_one] at this; rw [this]; simp [h]
theorem beq_cast (a b : Nat) : ((a : Int) == (b : Int)) = decide (a = b) := by
  by_cases h : a = b
  · rw [h]; simp
  · rw [decide_eq_false h, beq_eq_false_iff_ne]; omega
theorem gr_from {last : List Int} (hl : last.length ≤ 1000000) : ∀ (k : Nat) (out : List Int) (K : Nat), k ≤ 41 → out.length ≤ last.length → k * (last.length + 3) + 3 ≤ K →
    channel_greatest.l0 K last out ((k : Int) - 1) = some (grFrom last k ((k : Int) - 1) out, decide ((grFrom last k ((k : Int) - 1) out).length = last.length))
  | 0, out, K + 2, _, ho, hK => by
    unfold channel_greatest.l0 grFrom; rw [if_neg (by omega)]; unfold channel_greatest.j1; simp [beq_cast]
  | k + 1, out, K, hk, ho, hK => by
    obtain ⟨K, rfl⟩ : ∃ K', K = K' + last.length + 1 + 2 := ⟨K - last.length - 3, by rw [Nat.add_mul] at hK; omega⟩; unfold channel_greatest.l0 grFrom; rw [if_pos (by omega)]; unfold channel_greatest.j1
    by_cases h : out.length < last.length
    · rw [if_pos (by simpa using h), if_pos h, show (0 : Int) = ((0 : Nat) : Int) from rfl, gr_count hl out (by omega) (((k + 1 : Nat) : Int) - 1) (by omega) (by omega) K last.length 0 _ (by omega) (by omega) (by omega)]; simp only [List.drop_zero, Int.natCast_zero, Int.zero_add]; have hc : ((out.length : Int) < ((last.countP fun x => decide (((k + 1 : Nat) : Int) - 1 ≤ x) : Nat) : Int)) ↔ out.length < cntGe last (((k + 1 : Nat) : Int) - 1) := by unfold cntGe; omega
      have e : ((k + 1 : Nat) : Int) - 1 - 1 = (k : Int) - 1 := by omega
      rw [e]; have hK2 : k * (last.length + 3) + 3 ≤ K := by rw [Nat.add_mul] at hK; omega
      by_cases h2 : out.length < cntGe last (((k + 1 : Nat) : Int) - 1)
      · rw [if_pos (hc.2 h2), if_pos h2]; exact gr_from hl k _ K (by omega) (by simp; omega) hK2
      · rw [if_neg (fun x => h2 (hc.1 x)), if_neg h2]; exact gr_from hl k _ K (by omega) ho hK2
    · rw [if_neg (by simpa using h), if_neg h]; simp [beq_cast]
theorem greatest_eq {last : List Int} (hl : last.length ≤ 1000000) (K : Nat) (hK : 41 * (last.length + 3) + 3 ≤ K) : channel_greatest.f K last = some (grN last, decide ((grN last).length = last.length)) :=
  gr_from hl 41 [] K (by omega) (by simp) hK
theorem gr_desc (last : List Int) : ∀ (k : Nat) (y : Int) (out : List Int), out.Pairwise (fun a b => b < a) → (∀ a ∈ out, y < a ∧ a ≤ 40) → y ≤ 40 → (grFrom last k y out).Pairwise (fun a b => b < a) ∧ ∀ a ∈ grFrom last k y out, y - k < a ∧ a ≤ 40
  | 0, y, out, h1, h2, hy => ⟨h1, fun a ha => by have := h2 a ha; omega⟩
  | k + 1, y, out, h1, h2, hy => by
    unfold grFrom
    split
    · split
      · have := gr_desc last k (y - 1) (out ++ [y]) (List.pairwise_append.2 ⟨h1, by simp, by simpa using fun a ha => (h2 a ha).1⟩) (by
          intro a ha
          rcases List.mem_append.1 ha with ha | ha
          · have := h2 a ha; omega
          · simp at ha; omega) (by omega)
        exact ⟨this.1, fun a ha => by have := this.2 a ha; omega⟩
      · have := gr_desc last k (y - 1) out h1 (fun a ha => by have := h2 a ha; omega) (by omega); exact ⟨this.1, fun a ha => by have := this.2 a ha; omega⟩
    · exact ⟨h1, fun a ha => by have := h2 a ha; omega⟩
end Go.Proofs.YtdmdahafiiggiabGreatDoor.K
end
section
namespace Go.Proofs
open Go.Shelf
def Tryz.sortA_ren : Go.Shelf.Ren := ⟨fun | 5 => 89 | 8 => 123 | 7 => 122 | 19 => 143 | 20 => 144 | 10 => 134 | 11 => 135 | 12 => 136 | 13 => 137 | 14 => 138 | 15 => 139 | 16 => 140 | 17 => 141 | 18 => 142 | 30 => 151 | 31 => 152 | 32 => 153 | 33 => 154 | 34 => 155 | 35 => 156 | 40 => 166 | n => n, fun | 23 => 25 | 25 => 3 | 3 => 3 | 32 => 165 | 22 => 25 | 0 => 0 | 44 => 186 | 46 => 188 | 4 => 4 | 36 => 178 | 35 => 177 | 41 => 183 | 5 => 5 | 9 => 9 | 53 => 192 | 57 => 196 | 63 => 207 | 64 => 208 | n => n, fun | n => n⟩
theorem Tryz.sortA : Go.Proofs.SlLaysM.n5 Tryz.prog Tryz.sortA_ren := {
  mixed := by kernel_rfl
  f5 := ⟨Tryz.f89.name, by decide, Tryz.func89.trans (congrArg some (by kernel_rfl))⟩
  f7 := ⟨Tryz.f122.name, by decide, Tryz.func122.trans (congrArg some (by kernel_rfl))⟩
  f8 := Tryz.func123.trans (congrArg some (by kernel_rfl))
  f10 := ⟨Tryz.f134.name, by decide, Tryz.func134.trans (congrArg some (by kernel_rfl))⟩
  f11 := ⟨Tryz.f135.name, by decide, Tryz.func135.trans (congrArg some (by kernel_rfl))⟩
  f12 := ⟨Tryz.f136.name, by decide, Tryz.func136.trans (congrArg some (by kernel_rfl))⟩
  f13 := ⟨Tryz.f137.name, by decide, Tryz.func137.trans (congrArg some (by kernel_rfl))⟩
  f14 := ⟨Tryz.f138.name, by decide, Tryz.func138.trans (congrArg some (by kernel_rfl))⟩
  f15 := ⟨Tryz.f139.name, by decide, Tryz.func139.trans (congrArg some (by kernel_rfl))⟩
  f16 := ⟨Tryz.f140.name, by decide, Tryz.func140.trans (congrArg some (by kernel_rfl))⟩
  f17 := ⟨Tryz.f141.name, by decide, Tryz.func141.trans (congrArg some (by kernel_rfl))⟩
  f18 := ⟨Tryz.f142.name, by decide, Tryz.func142.trans (congrArg some (by kernel_rfl))⟩
  f19 := Tryz.func143.trans (congrArg some (by kernel_rfl))
  f20 := Tryz.func144.trans (congrArg some (by kernel_rfl))
  f30 := ⟨Tryz.f151.name, by decide, Tryz.func151.trans (congrArg some (by kernel_rfl))⟩
  f31 := Tryz.func152.trans (congrArg some (by kernel_rfl))
  f32 := Tryz.func153.trans (congrArg some (by kernel_rfl))
  f33 := ⟨Tryz.f154.name, by decide, Tryz.func154.trans (congrArg some (by kernel_rfl))⟩
  f34 := ⟨Tryz.f155.name, by decide, Tryz.func155.trans (congrArg some (by kernel_rfl))⟩
  f35 := ⟨Tryz.f156.name, by decide, Tryz.func156.trans (congrArg some (by kernel_rfl))⟩
  f40 := ⟨Tryz.f166.name, by decide, Tryz.func166.trans (congrArg some (by kernel_rfl))⟩
  t0 := Tryz.underlying0
  a0 := Tryz.isAgg0
  z0 := Tryz.sizeOf0
  v0 := Tryz.zeroValue0
  t3 := Tryz.underlying3
  a3 := Tryz.isAgg3
  z3 := Tryz.sizeOf3
  v3 := Tryz.zeroValue3
  t4 := Tryz.underlying4
  a4 := Tryz.isAgg4
  z4 := Tryz.sizeOf4
  v4 := Tryz.zeroValue4
  t5 := Tryz.underlying5
  a5 := Tryz.isAgg5
  z5 := Tryz.sizeOf5
  v5 := Tryz.zeroValue5
  t9 := Tryz.underlying9
  a9 := Tryz.isAgg9
  z9 := Tryz.sizeOf9
  v9 := Tryz.zeroValue9
  t22 := Tryz.underlying25
  a22 := Tryz.isAgg25
  z22 := Tryz.sizeOf25
  v22 := Tryz.zeroValue25
  t23 := Tryz.underlying25
  a23 := Tryz.isAgg25
  z23 := Tryz.sizeOf25
  v23 := Tryz.zeroValue25
  t25 := Tryz.underlying3
  a25 := Tryz.isAgg3
  z25 := Tryz.sizeOf3
  v25 := Tryz.zeroValue3
  t32 := Tryz.underlying165
  a32 := Tryz.isAgg165
  z32 := Tryz.sizeOf165
  v32 := Tryz.zeroValue165
  t35 := Tryz.underlying177
  a35 := Tryz.isAgg177
  z35 := Tryz.sizeOf177
  v35 := Tryz.zeroValue177
  t36 := Tryz.underlying178
  a36 := Tryz.isAgg178
  z36 := Tryz.sizeOf178
  v36 := Tryz.zeroValue178
  t41 := Tryz.underlying183
  a41 := Tryz.isAgg183
  z41 := Tryz.sizeOf183
  v41 := Tryz.zeroValue183
  t44 := Tryz.underlying186
  a44 := Tryz.isAgg186
  z44 := Tryz.sizeOf186
  v44 := Tryz.zeroValue186
  t46 := Tryz.underlying188
  a46 := Tryz.isAgg188
  z46 := Tryz.sizeOf188
  v46 := Tryz.zeroValue188
  t53 := Tryz.underlying192
  a53 := Tryz.isAgg192
  z53 := Tryz.sizeOf192
  v53 := Tryz.zeroValue192
  t57 := Tryz.underlying196
  a57 := Tryz.isAgg196
  z57 := Tryz.sizeOf196
  v57 := Tryz.zeroValue196
  t63 := Tryz.underlying207
  a63 := Tryz.isAgg207
  z63 := Tryz.sizeOf207
  v63 := Tryz.zeroValue207
  t64 := Tryz.underlying208
  a64 := Tryz.isAgg208
  z64 := Tryz.sizeOf208
  v64 := Tryz.zeroValue208 }
end Go.Proofs
end
section
namespace Go.Proofs.YtdmdahafiiggiabGreatDoor.K
open Go.RowKit Go.Shelf Go.Proofs.YtdmdahafiiggiabGreatDoorW.PrintWords Go.Proofs.YtdmdahafiiggiabGreatDoorW.PrintLast Go.Proofs.YtdmdahafiiggiabGreatDoorW.PrintMore
attribute [local go_sem] Oper.semAt_some
theorem blockAdd (a : Addr) (i : Nat) : (a.add i).block = a.block := by unfold Addr.add; split <;> rfl
def uptoF {α : Type} (f : Nat → α) (k : Nat) : List α := (List.range k).map f
theorem uptoF_succ {α : Type} (f : Nat → α) (k : Nat) : uptoF f (k + 1) = uptoF f k ++ [f k] := by simp [uptoF, List.range_succ]
theorem uptoF_length {α : Type} (f : Nat → α) (k : Nat) : (uptoF f k).length = k := by simp [uptoF]
theorem uptoF_all (zs : List Int) : uptoF (fun j => zs[j]?.getD 0) zs.length = zs := by
  apply List.ext_getElem
  · simp [uptoF]
  · intro i h1 h2; simp [uptoF, h2]
theorem uptoF_take (zs : List Int) {k : Nat} (hk : k ≤ zs.length) : uptoF (fun j => zs[j]?.getD 0) k = zs.take k := by
  apply List.ext_getElem
  · simp [uptoF, hk]
  · intro i h1 h2; have : i < zs.length := by simp [uptoF] at h1; omega
    simp [uptoF, this]
set_option maxRecDepth 100000 in
set_option maxHeartbeats 2000000 in
theorem values1_in (F : Fence) (n : Nat) (h7 : F.fn 146) (hro : F.round = none) (hn : 1 ≤ n) (l Bs n₀ len cap : Nat) (ad : Addr) (zs : List Int) (hreach : len * 8 ≤ 140737488351232) (hb : ad.block < n₀) (J Jx : List Int → World → Prop)
    (hY : ∀ pre x W, J pre W → pre.length < len → YieldAt F (n - 1) Tryz.prog l #[.int .i64 x] W fun e W' =>
      (e = .returned (.bool true) ∧ J (pre ++ [x]) W' ∧ Below n₀ W W') ∨ (e = .returned (.bool false) ∧ Jx (pre ++ [x]) W'))
    (W : World) (hBs : W.cell? ⟨Bs, 0, none⟩ = some (.slice (some ad) len cap)) (hc : ∀ j, j < len → W.cell? (ad.add j) = some (.int .i64 (zs[j]?.getD 0))) (h0 : J [] W) :
    CallsIn F n Tryz.prog 146 #[.func (.yield l) #[] #[], .pointer (some ⟨Bs, 0, none⟩)] W fun e W' => (∃ v, e = .returned v) ∧
      ((∃ ys, ys = uptoF (fun j => zs[j]?.getD 0) len ∧ J ys W') ∨ (∃ pre, (∃ k, k ≤ len ∧ pre = uptoF (fun j => zs[j]?.getD 0) k) ∧ Jx pre W')) := by
  refine callsIn_of_wp Tryz.func146 rfl h7 ?_ hro; simp only [Tryz.ntmps146, List.size_toArray, List.length_cons, List.length_nil, Nat.reduceAdd, Nat.reduceSub, Array.replicate_succ, Array.replicate_zero, List.push_toArray, List.append_toArray, List.nil_append, List.cons_append]
  gi_wp2
  gi_loopw [7] (fun i wr => ∃ k : Nat, k ≤ len ∧ i = .int .i64 k ∧ J (uptoF (fun j => zs[j]?.getD 0) k) wr ∧ Below n₀ W wr)
    (fun i _ => len - (intOf i).toNat)
  case atStart => exact ⟨0, Nat.zero_le _, rfl, h0, Below.refl _ _⟩
  case round =>
    obtain ⟨k, hk, rfl, hJs, hnx⟩ := hrel; have hcx : k < len → wr.cell? (ad.add k) = some (.int .i64 (zs[k]?.getD 0)) := fun h => (hnx.cell (p := ad.add k) (by rw [blockAdd]; exact hb)).trans (hc k h)
    by_cases hlt : k < len
    · obtain ⟨fn, tmps, assign, body, hy, hR⟩ := hY _ (zs[k]?.getD 0) wr hJs (by rw [uptoF_length]; exact hlt); have hcx' := hcx hlt
      gi_wp2
      refine hR.mono ?_; rintro e W3 (⟨rfl, hJ3, hk3⟩ | ⟨rfl, hJx3⟩)
      · gi_wp2
        go_roundw
        case rel => exact ⟨k + 1, by omega, by simp, by rw [uptoF_succ]; exact hJ3, hnx.trans hk3⟩
        case measure => simp [intOf]; omega
      · gi_wp2
        refine bodyPost_ret (results_none rfl _ _ _) rfl ?_; exact ⟨⟨_, rfl⟩, .inr ⟨_, ⟨k + 1, by omega, (uptoF_succ _ _).symm⟩, hJx3⟩⟩
    · obtain rfl : k = len := by omega
      gi_wp2
      go_end0
      exact ⟨⟨_, rfl⟩, .inl ⟨_, rfl, hJs⟩⟩
set_option maxRecDepth 100000 in
set_option maxHeartbeats 1000000 in
theorem values1_nil_in (F : Fence) (n : Nat) (h7 : F.fn 146) (hro : F.round = none) (l Bs cap : Nat) (A : Option Addr) (J : List Int → World → Prop) (W : World) (hBs : W.cell? ⟨Bs, 0, none⟩ = some (.slice A 0 cap)) (h0 : J [] W) :
    CallsIn F n Tryz.prog 146 #[.func (.yield l) #[] #[], .pointer (some ⟨Bs, 0, none⟩)] W fun e W' => (∃ v, e = .returned v) ∧ J [] W' := by
  refine callsIn_of_wp Tryz.func146 rfl h7 ?_ hro; simp only [Tryz.ntmps146, List.size_toArray, List.length_cons, List.length_nil, Nat.reduceAdd, Nat.reduceSub, Array.replicate_succ, Array.replicate_zero, List.push_toArray, List.append_toArray, List.nil_append, List.cons_append]
  gi_wp2
  gi_loopw [7] (fun i wr => i = .int .i64 0 ∧ J [] wr) (fun _ _ => 0)
  case atStart => exact ⟨rfl, h0⟩
  case round =>
    obtain ⟨rfl, hJs⟩ := hrel
    gi_wp2
    go_end0
    exact ⟨⟨_, rfl⟩, hJs⟩
set_option maxHeartbeats 1000000 in
theorem values_any (a : Option Addr) (len cap : Nat) (w : World) :
    Calls Tryz.prog 125 #[.slice a len cap] w fun e w' => e = .returned (.func (.func 146) #[] #[.pointer (some ⟨w.heap.size, 0, none⟩)]) ∧ w' = w.alloc (.cells #[.slice a len cap] 25) := by
  have hmf : ∀ (fn : Fn) (first cap : Array Value) (w : World), (Instr.makeFunc fn first cap).run Tryz.prog w = .ok (.func fn first cap) w := fun _ _ _ _ => rfl
  go_enter Tryz.func125, Tryz.ntmps125
  go_wp2; go_ret; exact ⟨rfl, rfl⟩
theorem ints_at {w : World} {A : Option Addr} {zs : List Int} (h : Kd.C (Kd.int .i64) w A zs.length zs) (h0 : 0 < zs.length) : ∃ ad, A = some ad ∧ ad.block < w.heap.size ∧ ∀ j, j < zs.length → w.cell? (ad.add j) = some (.int .i64 (zs[j]?.getD 0)) := by
  obtain ⟨ad, rfl, h1⟩ := Kd.at_int h 0 (by omega) (by omega); refine ⟨ad, rfl, World.block_lt_of_cell? w _ h1, fun j hj => ?_⟩; obtain ⟨ad', e, h2⟩ := Kd.at_int h (j : Int) (by omega) (by omega)
  cases e
  rw [Int.toNat_natCast] at h2; rw [h2]; simp [rd, List.getD]
theorem values_stops (F : Fence) (n : Nat) (h7 : F.fn 146) (hro : F.round = none) (hn : 1 ≤ n) (Bs n₀ : Nat) (A : Option Addr) (cap : Nat) (zs : List Int) (hreach : zs.length * 8 ≤ 140737488351232) (w0 w : World) (hBs : Bs < w.heap.size) (hn₀ : n₀ ≤ w.heap.size) (hw0 : w0.heap.size ≤ n₀) (hb0 : Below w0.heap.size w0 w)
    (hc : w.cell? ⟨Bs, 0, none⟩ = some (.slice A zs.length cap)) (hI : Kd.C (Kd.int .i64) w0 A zs.length zs) :
    SeqStopsK F n Tryz.prog 146 #[.pointer (some ⟨Bs, 0, none⟩)] (fun x : Int => #[Value.int .i64 x]) (Below n₀) (fun ys => ys = zs) (fun pre => pre <+: zs) zs.length w := fun l J Jx W hW _ _ hY h0 => by
  have hc' := (hW.cell (p := ⟨Bs, 0, none⟩) hBs).trans hc
  by_cases hz : 0 < zs.length
  · obtain ⟨ad, rfl, hb, hcs⟩ := ints_at hI hz; have hcs' : ∀ j, j < zs.length → W.cell? (ad.add j) = some (.int .i64 (zs[j]?.getD 0)) := fun j hj => (hW.cell (p := ad.add j) (by rw [blockAdd]; exact Nat.lt_of_lt_of_le (Nat.lt_of_lt_of_le hb hw0) hn₀)).trans ((hb0.cell (p := ad.add j) (by rw [blockAdd]; exact hb)).trans (hcs j hj)); refine (values1_in F n h7 hro hn l Bs n₀ zs.length cap ad zs hreach (Nat.lt_of_lt_of_le hb hw0) J Jx hY W hc' hcs' h0).mono ?_; rintro e W' ⟨he, ⟨ys, rfl, hj⟩ | ⟨pre, ⟨k, hk, rfl⟩, hj⟩⟩
    · exact ⟨he, .inl ⟨_, uptoF_all zs, hj⟩⟩
    · exact ⟨he, .inr ⟨_, by rw [uptoF_take zs hk]; exact List.take_prefix _ _, hj⟩⟩
  · obtain rfl : zs = [] := List.eq_nil_of_length_eq_zero (by omega); exact (values1_nil_in F n h7 hro l Bs cap A J W hc' h0).mono fun e W' ⟨he, hj⟩ => ⟨he, .inl ⟨_, rfl, hj⟩⟩
theorem infoInt : (Tryz.prog.info? 3).map (fun i => (i.zero, i.size, i.bytes)) = some (some (.int .i64 0), 1, 8) := by kernel_rfl
set_option maxRecDepth 100000 in
set_option maxHeartbeats 2000000 in

theorem appendSeq_in (F : Fence) (n : Nat) (hA : F.fn 157) (h7 : F.fn 146) (hro : F.round = none) (hn : 3 ≤ n) (Bv : Nat) (A : Option Addr) (cap : Nat) (zs : List Int) (hl : zs.length ≤ 1000000) (w0 w : World)
    (hBv : Bv < w.heap.size) (hb0 : Below w0.heap.size w0 w) (hcv : w.cell? ⟨Bv, 0, none⟩ = some (.slice A zs.length cap)) (hI : Kd.C (Kd.int .i64) w0 A zs.length zs) :
    CallsIn F n Tryz.prog 157 #[.slice none 0 0, .func (.func 146) #[] #[.pointer (some ⟨Bv, 0, none⟩)]] w fun e W' => ∃ v, e = .returned v ∧ W'.ownsRow w.heap.size 3 1 v zs.length (zs.map (Value.int .i64)) ∧ (v = .slice none 0 0 ↔ zs = []) ∧ Below w.heap.size w W' := by
  have h1 : 1 ≤ n := by omega
  obtain ⟨i0, hi, hz0, hz1, hz2⟩ := info_parts infoInt; refine callsIn_of_wp_marks Tryz.func157 rfl hA ?_ hro; simp only [Tryz.ntmps157, List.size_toArray, List.length_cons, List.length_nil, Nat.reduceAdd, Nat.reduceSub, Array.replicate_succ, Array.replicate_zero, List.push_toArray, List.append_toArray, List.nil_append, List.cons_append]
  gi_wp2
  have bS := Boxed.new w 25 (.slice none 0 0); have hB0 : Below w.heap.size w (w.alloc (.cells #[.slice none 0 0] 25)) := (Below.refl _ w).alloc (Nat.le_refl _) _
  refine wpIn_rangeFunc_ownG hro h1 (gf := 146) (lb := #[.pointer (some ⟨Bv, 0, none⟩)]) rfl h7 (enters_of Tryz.func146 (by kernel_rfl) rfl)
    (values_stops F (n - 1) h7 hro (by omega) Bv w.heap.size A cap zs (by omega) w0 _ (by simp; omega) (by simp) hb0.size (below_step hb0 hB0) ((hB0.cell (p := ⟨Bv, 0, none⟩) hBv).trans hcv) hI) belowK_t (belowK_b (by simp)) (Below.refl _ _) (fun _ => rfl)
    (fun pre W => (∃ v, Boxed W w.heap.size 25 v ∧ W.ownsRow w.heap.size 3 1 v pre.length (pre.map (Value.int .i64)) ∧ (v = .slice none 0 0 ↔ pre = [])) ∧ Below w.heap.size w W)
    (fun _ _ _ => False)
    (OwnFrom.and (Own.from (holdsRow_own w.heap.size w.heap.size 25 3 1 (fun pre : List Int => pre.length) (fun pre => pre.map (Value.int .i64)) (fun pre v => v = .slice none 0 0 ↔ pre = [])) _) (ownFrom_below (Nat.le_refl _) (by simp)))
    (fun _ _ _ _ _ hs _ _ => hs)
    ⟨⟨_, bS, World.ownsRow_nil _ _ _ _, by simp⟩, hB0⟩
    (fun x => { tmps := #[.slice none 0 0, .func (.func 146) #[] #[.pointer (some ⟨Bv, 0, none⟩)], .pointer (some ⟨w.heap.size, 0, none⟩), undef, .slice none 0 0, .int .i64 x, .func (.func 146) #[] #[.pointer (some ⟨Bv, 0, none⟩)], .int .i64 x, undef, undef, undef, undef, undef], defers := [] }) ?assign ?body ?done ?stop
  case assign =>
    intro l x W K hK
    gi_wp2
    exact hK
  case body =>
    rintro l pre x W ⟨⟨v, hv, hrow, hnil⟩, hB⟩ hlt; have hc := hv.cell
    gi_wp2_with (gi_at_builtin; refine wpListIn_append_own _ rfl _ _ 25 rfl w.heap.size 3 i0 (.int .i64 0) 1 8 Tryz.underlying25 hi hz0 hz1 hz2 rfl (by decide) _ _ _ rfl (hrow.alloc _) ⟨W.heap.size, 0, none⟩ 1 1 [.int .i64 x] rfl rfl (cell_one_new _ _ _) (by simp [Value.oneCell']) (by unfold maxLen; omega) (by omega) (by have := hB.size; simp; omega) ?_; intro v' w1 hown' hgrow _; obtain ⟨g', cap', rfl⟩ := ownsRow_succ hown'; obtain ⟨hv1, hv2, hr2, hk2, hb2⟩ := hv.appended (by decide) hrow hB.size (Nat.le_refl _) hown' hgrow; have hc1 := hv1.cell; have hf1 := hv1.frozen)
    exact ⟨hk2.from _, hb2, ⟨_, hv2, by simpa using hr2, by simp⟩, hB.trans hb2⟩
  case done =>
    rintro D ys W hD rfl ⟨⟨v, hv, hrow, hnil⟩, hB⟩ hK; have hc := hv.cell
    gi_wp2
    refine ⟨by simp, .inl ⟨_, _, rfl, run_takeDeferred hK, ?_⟩⟩; exact ⟨_, results_tmp rfl _ _ _, v, rfl, ownsRow_putObj hrow _ hK rfl, hnil, hB.trans (belowK_b (w := w) (Nat.le_refl _) W D _ _ (by simp at hD; omega) hK rfl rfl)⟩
  case stop =>
    rintro D c pre W _ _ h _; exact h.elim
theorem collect_any (Bv : Nat) (A : Option Addr) (cap : Nat) (zs : List Int) (hl : zs.length ≤ 1000000) (w0 w : World)
    (hBv : Bv < w.heap.size) (hb0 : Below w0.heap.size w0 w) (hcv : w.cell? ⟨Bv, 0, none⟩ = some (.slice A zs.length cap)) (hI : Kd.C (Kd.int .i64) w0 A zs.length zs) :
    Calls Tryz.prog 145 #[.func (.func 146) #[] #[.pointer (some ⟨Bv, 0, none⟩)]] w fun e W' => ∃ v, e = .returned v ∧ W'.ownsRow w.heap.size 3 1 v zs.length (zs.map (Value.int .i64)) ∧ (v = .slice none 0 0 ↔ zs = []) ∧ Below w.heap.size w W' := by
  have CA := Aside0.mk ((callsIn_wide (n := 3)).1 (appendSeq_in Fence.wide 3 trivial trivial rfl (by omega) Bv A cap zs hl w0 w hBv hb0 hcv hI))
  go_enter Tryz.func145, Tryz.ntmps145
  go_wp2_with (go_at_call 157; refine CA.out.mono ?_; rintro e w1 ⟨v, rfl, h1, h2, h3⟩)
  go_ret; exact ⟨v, rfl, h1, h2, h3⟩
def sortL (l : List Int) : List Int := l.mergeSort fun x y => decide (x ≤ y)
theorem sortL_length (l : List Int) : (sortL l).length = l.length := List.length_mergeSort l
def IntsAt (w : World) (v : Value) (xs : List Int) : Prop := ∃ A c, v = .slice A xs.length c ∧ ∀ i : Int, 0 ≤ i → i < xs.length → ∃ ad, A = some ad ∧ w.cell? (ad.add i.toNat) = some (.int .i64 (rd xs i))
theorem IntsAt.below {w w1 : World} {v : Value} {xs : List Int} (h : IntsAt w v xs) (hb : Below w.heap.size w w1) : IntsAt w1 v xs := by
  obtain ⟨A, c, e, hc⟩ := h; refine ⟨A, c, e, fun i h0 h1 => ?_⟩; obtain ⟨ad, ea, hx⟩ := hc i h0 h1; exact ⟨ad, ea, (hb.cell (World.block_lt_of_cell? w _ hx)).trans hx⟩
set_option maxRecDepth 100000 in
set_option maxHeartbeats 1000000 in
theorem sorted_any (Bv : Nat) (A : Option Addr) (cap : Nat) (zs : List Int) (hl : zs.length ≤ 1000000) (w0 w : World)
    (hBv : Bv < w.heap.size) (hb0 : Below w0.heap.size w0 w) (hcv : w.cell? ⟨Bv, 0, none⟩ = some (.slice A zs.length cap)) (hI : Kd.C (Kd.int .i64) w0 A zs.length zs) :
    Calls Tryz.prog 124 #[.func (.func 146) #[] #[.pointer (some ⟨Bv, 0, none⟩)]] w fun e W' => ∃ v, e = .returned v ∧ IntsAt W' v (sortL zs) ∧ Below w.heap.size w W' := by
  have CC := Aside0.mk (collect_any Bv A cap zs hl w0 w hBv hb0 hcv hI); clear hcv hI hb0 hBv
  go_enter Tryz.func124, Tryz.ntmps124
  go_wp2_with (go_at_call 145; refine CC.out.mono ?_; rintro e W ⟨v, rfl, hrow, hnil, hb⟩)
  rcases hrow.2 with ⟨rfl, hz⟩ | ⟨gb, cap', cur, rfl, hbase, hgb, r1, r2, r3, r4⟩
  · have hss : zs = [] := List.eq_nil_of_length_eq_zero hz; subst hss; refine (AnyM.slices_Sort_int_none Tryz.sortA none 0 W).mono ?_; rintro e w' ⟨rfl, rfl⟩; go_wp2; go_ret; exact ⟨_, rfl, ⟨none, 0, by simp [sortL], fun i h0 h1 => by simp [sortL] at h1; omega⟩, hb⟩
  · have hH : Sort.Holds (Value.int .i64) W gb 0 zs.toArray := holds_of_block_i hgb (by simpa using r4); have hgl : gb < W.heap.size := (Array.getElem?_eq_some_iff.1 hgb).1; have cS := AnyM.slices_Sort_int Tryz.sortA gb 0 cap' zs W hH hgl (by omega); refine cS.mono ?_; rintro e w' ⟨rfl, nn, os, rfl⟩; go_wp2; go_ret; have hR := ownsRow_sorted_i (n := nn) (os := os) (ts := sortL zs) (ss := zs) (sortL_length zs) hbase hgb r1 r2 r3; refine ⟨_, rfl, ?_, hb.grown (grownBy_sorted_i _) hb.size (fun j hj => by cases hj; exact hbase)⟩; refine ⟨some ⟨gb, 0, none⟩, cap', by rw [sortL_length]; rfl, fun i h0 h1 => ⟨_, rfl, ?_⟩⟩; rw [sortL_length] at h1; have := (own_at hR i h0 h1).1
    rwa [show (⟨gb, i.toNat, none⟩ : Addr) = (⟨gb, 0, none⟩ : Addr).add i.toNat from by unfold Addr.add; split <;> simp_all] at this
end Go.Proofs.YtdmdahafiiggiabGreatDoor.K
end
section
namespace Go.Proofs.YtdmdahafiiggiabGreatDoor.K
open Go.RowKit Go.Proofs.YtdmdahafiiggiabGreatDoorW.PrintWords Go.Proofs.YtdmdahafiiggiabGreatDoorW.PrintLast Go.Proofs.YtdmdahafiiggiabGreatDoorW.PrintMore
attribute [local simp] clsA
def fitB (last years : List Int) : Bool := (List.range last.length).all fun i => decide (rd (sortL years) i ≤ rd (sortL last) i)
theorem fit_true {last years : List Int} (h : ∀ i : Nat, i < last.length → rd (sortL years) i ≤ rd (sortL last) i) : fitB last years = true := by
  simp only [fitB, List.all_eq_true, List.mem_range, decide_eq_true_eq]; exact h
theorem fit_false {last years : List Int} (i : Nat) (hi : i < last.length) (h : ¬ rd (sortL years) i ≤ rd (sortL last) i) : fitB last years = false := by
  rw [Bool.eq_false_iff]; intro hf; simp only [fitB, List.all_eq_true, List.mem_range, decide_eq_true_eq] at hf; exact h (hf i hi)
set_option maxRecDepth 100000 in
set_option maxHeartbeats 1000000 in
theorem fit_any (A A' : Option Addr) (c c' : Nat) (last years : List Int) (w : World) (hr : Kd.C (Kd.int .i64) w A last.length last) (hr' : Kd.C (Kd.int .i64) w A' years.length years) (hl : last.length ≤ 1000000) (hl' : years.length ≤ 1000000) (hle : last.length ≤ years.length) :
    Calls Tryz.prog 94 #[.slice A last.length c, .slice A' years.length c'] w fun e w' => e = .returned (.bool (fitB last years)) ∧ Below w.heap.size w w' := by
  have hmf : ∀ (fn : Fn) (first cap : Array Value) (w : World), (Instr.makeFunc fn first cap).run Tryz.prog w = .ok (.func fn first cap) w := fun _ _ _ _ => rfl
  have S1 : Aside0 (∀ W, Below w.heap.size w W → Calls Tryz.prog 124 #[.func (.func 146) #[] #[.pointer (some ⟨W.heap.size, 0, none⟩)]] (W.alloc (.cells #[.slice A last.length c] 25)) fun e W' => ∃ v, e = .returned v ∧ IntsAt W' v (sortL last) ∧ Below W.heap.size W W') := ⟨fun W hW => by
    have hB : Below W.heap.size W (W.alloc (.cells #[.slice A last.length c] 25)) := (Below.refl _ _).alloc (Nat.le_refl _) _; refine (sorted_any W.heap.size A c last hl w (W.alloc (.cells #[.slice A last.length c] 25)) (by simp) (below_step hW hB) (by simp [go_sem]) hr).mono ?_; rintro e W' ⟨v, rfl, h1, h2⟩
    exact ⟨v, rfl, h1, below_then hB hB.size h2⟩⟩
  have S2 : Aside0 (∀ W, Below w.heap.size w W → Calls Tryz.prog 124 #[.func (.func 146) #[] #[.pointer (some ⟨W.heap.size, 0, none⟩)]] (W.alloc (.cells #[.slice A' years.length c'] 25)) fun e W' => ∃ v, e = .returned v ∧ IntsAt W' v (sortL years) ∧ Below W.heap.size W W') := ⟨fun W hW => by
    have hB : Below W.heap.size W (W.alloc (.cells #[.slice A' years.length c'] 25)) := (Below.refl _ _).alloc (Nat.le_refl _) _; refine (sorted_any W.heap.size A' c' years hl' w (W.alloc (.cells #[.slice A' years.length c'] 25)) (by simp) (below_step hW hB) (by simp [go_sem]) hr').mono ?_; rintro e W' ⟨v, rfl, h1, h2⟩
    exact ⟨v, rfl, h1, below_then hB hB.size h2⟩⟩
  clear hr hr'; have HL := Aside0.mk (And.intro hl (And.intro hl' hle)); clear hl hl' hle; have HB := Aside0.mk (Below.refl w.heap.size w)
  go_enter Tryz.func94, Tryz.ntmps94
  go_wp2_with (go_at_call 125; refine (values_any _ _ _ _).mono ?_; rintro e w1 ⟨rfl, rfl⟩)
  refine (S1.out _ HB.out).mono ?_; rintro e w1 ⟨v1, rfl, i1, b1⟩
  go_wp2_with (go_at_call 125; refine (values_any _ _ _ _).mono ?_; rintro e w2 ⟨rfl, rfl⟩)
  refine (S2.out _ b1).mono ?_; rintro e w2 ⟨v2, rfl, i2, b2⟩; replace i1 := i1.below b2; obtain ⟨A1, c1, rfl, h1⟩ := i1; obtain ⟨A2, c2, rfl, h2⟩ := i2; have H1 := Aside0.mk h1; have H2 := Aside0.mk h2; have HB2 := Aside0.mk (below_step b1 b2); clear h1 h2 b1 b2 S1 S2 HB; have e1 := sortL_length last; have e2 := sortL_length years; have E1 := Aside0.mk e1; have E2 := Aside0.mk e2; clear e1 e2; go_wp2
  go_loopg [7, 16] (sortL last).length (fun kq v7 v16 w' => ∃ j : Nat, v16 = .int .i64 (j : Int) ∧ Aside0 (j + kq = (sortL last).length) ∧ Aside0 (∀ i : Nat, i < j → rd (sortL years) i ≤ rd (sortL last) i) ∧ Aside0 (Below w2.heap.size w2 w'))
  case atStart => exact ⟨0, rfl, ⟨by omega⟩, ⟨fun i hi => by omega⟩, ⟨Below.refl _ _⟩⟩
  case round =>
    obtain ⟨j, rfl, HJ, HI, HW⟩ := hrel
    cases gk with
    | zero =>
      have c3 : decide ((j : Int) < ((sortL last).length : Int)) = false := decide_eq_false (by have := HJ.out; omega); have c4 : ¬ (j < (sortL last).length) := by have := HJ.out; omega
      go_wp2; go_ret; exact ⟨by rw [fit_true (fun i hi => HI.out i (by have := HJ.out; have := E1.out; omega))]; rfl, below_step HB2.out HW.out⟩
    | succ k2 =>
      have c3 : decide ((j : Int) < ((sortL last).length : Int)) = true := decide_eq_true (by have := HJ.out; omega); have p1 : (0 : Int) ≤ (j : Int) := by omega
      have p2 : (j : Int) < ((sortL last).length : Int) := by have := HJ.out; omega
      have p3 : (j : Int) < ((sortL years).length : Int) := by have := HJ.out; have := E1.out; have := E2.out; have := HL.out; omega
      obtain ⟨ad1, ea1, x1⟩ := H1.out j p1 p2; obtain ⟨ad2, ea2, x2⟩ := H2.out j p1 p3
      cases ea1
      cases ea2
      rw [Int.toNat_natCast] at x1 x2; replace x1 := (HW.out.cell (World.block_lt_of_cell? _ _ x1)).trans x1; replace x2 := (HW.out.cell (World.block_lt_of_cell? _ _ x2)).trans x2; have y1 := fun X : After wr => X.cell' x1; have y2 := fun X : After wr => X.cell' x2; clear x1 x2; have q1 := eq_true p1; have q2 := eq_true p2; have q3 := eq_true p3; have RG := 0; clear RG
      by_cases ht : rd (sortL years) j ≤ rd (sortL last) j
      · have ht' : decide (rd (sortL last) j < rd (sortL years) j) = false := decide_eq_false (by omega); go_wp2; refine wp_region_after (by kernel_rfl) (by kernel_rfl) ?_; (repeat (go_big_quiet_step (fail))); refine wpQuiet_nil ?_; intro X; go_wp2
        go_roundg k2
        case measure => omega
        case rel => exact ⟨j + 1, (by rw [IntWalk.wrap64_in _ (by have := HJ.out; have := E1.out; have := HL.out; omega), Int.natCast_add, Int.natCast_one]), ⟨by have := HJ.out; omega⟩, ⟨fun i hi => (Nat.lt_or_eq_of_le (Nat.le_of_lt_succ hi)).elim (fun h => HI.out i h) (fun h => h ▸ ht)⟩, ⟨below_step HW.out X.hb⟩⟩
      · have ht' : decide (rd (sortL last) j < rd (sortL years) j) = true := decide_eq_true (by omega); go_wp2; refine wp_region_after (by kernel_rfl) (by kernel_rfl) ?_; (repeat (go_big_quiet_step (fail))); refine wpQuiet_nil ?_; intro X; go_wp2; go_ret; exact ⟨by rw [fit_false j (by have := HJ.out; have := E1.out; omega) (by omega)]; rfl, below_step (below_step HB2.out HW.out) X.hb⟩
end Go.Proofs.YtdmdahafiiggiabGreatDoor.K
end
section
namespace Go.Proofs.YtdmdahafiiggiabGreatDoor.K
open Go.RowKit Go.Proofs.YtdmdahafiiggiabGreatDoorW.PrintWords Go.Proofs.YtdmdahafiiggiabGreatDoorW.PrintLast Go.Proofs.YtdmdahafiiggiabGreatDoorW.PrintMore
theorem isAge_any (x : Int) (w : World) : Calls Tryz.prog 71 #[.int .i64 x] w fun e w' => e = .returned (.bool (inB x 0 200)) ∧ w = w' := by
  go_enter Tryz.func71, Tryz.ntmps71
  go_wp2_with (go_at_call 62; refine (in_any _ _ _ _).mono ?_; rintro e w' ⟨rfl, rfl⟩)
  go_ret; exact ⟨rfl, rfl⟩
theorem areAges1_any (x : Int) (w : World) : Calls Tryz.prog 114 #[.int .i64 x] w fun e w' => e = .returned (.bool (!inB x 0 200)) ∧ w = w' := by
  go_enter Tryz.func114, Tryz.ntmps114
  go_wp2_with (go_at_call 71; refine (isAge_any _ _).mono ?_; rintro e w' ⟨rfl, rfl⟩)
  go_ret; exact ⟨rfl, rfl⟩
def areAgesB (n : Nat) (ages : List Int) : Bool := ages.length == n && ages.all (fun x => inB x 0 200)
def channel_areAges.f (sp : List Int) (st : List S66) (ages : List Int) : Option Bool := if ages.length ≤ 9223372036854775807 then some (areAgesB st.length ages) else none
theorem channel_areAges.calls (A0_0 : Option Addr) (c0_0 : Nat) (l0_0 : List Int) (A0_1 : Option Addr) (c0_1 : Nat) (l0_1 : List S66) (A1 : Option Addr) (c1 : Nat) (l1 : List Int) (r : Bool) (w : World) (hr0_0 : Kd.C (Kd.int .i64) w A0_0 l0_0.length l0_0) (hc0_0 : l0_0.length ≤ c0_0) (hr0_1 : Kd.C k66 w A0_1 l0_1.length l0_1) (hc0_1 : l0_1.length ≤ c0_1) (hr1 : Kd.C (Kd.int .i64) w A1 l1.length l1) (hc1 : l1.length ≤ c1) (h : channel_areAges.f l0_0 l0_1 l1 = some r) :
    Calls Tryz.prog 74 #[.agg #[.slice A0_0 l0_0.length c0_0, .slice A0_1 l0_1.length c0_1], .slice A1 l1.length c1] w fun e w' => e = .returned (.bool r) ∧ Below w.heap.size w w' := by
  unfold channel_areAges.f at h
  by_cases hl : l1.length ≤ 9223372036854775807
  case neg => rw [if_neg hl] at h; cases h
  rw [if_pos hl] at h; obtain rfl := Option.some.inj h; clear h; have hu2 := Tryz.underlying60; obtain ⟨w1, hw1⟩ : ∃ w1, w.alloc (.cells #[.slice A0_0 l0_0.length c0_0, .slice A0_1 l0_1.length c0_1] 60) = w1 := ⟨_, rfl⟩; have hB1 : Below w.heap.size w w1 := by rw [← hw1]; exact (Below.refl _ _).alloc (Nat.le_refl _) _
  have hcell1 : w1.cell? ⟨w.heap.size, 1, none⟩ = some (.slice A0_1 l0_1.length c0_1) := by rw [← hw1]; simp [go_sem]
  have c90 := contFuncInt A1 c1 l1 114 #[] (fun x => !inB x 0 200) w1 (Kd.C_below hr1 hB1) hc1 hl (enters_of Tryz.func114 (by kernel_rfl) rfl) (fun W x _ => (areAges1_any x W).mono fun e w' ⟨he, hw⟩ => ⟨he, hw ▸ Below.refl _ _⟩); rw [any_not_all] at c90; clear hr0_0 hr0_1 hr1
  by_cases he : l1.length = l0_1.length
  · have he1 : ((l1.length : Int) == (l0_1.length : Int)) = true := by rw [he]; simp
    have he2 : (l1.length == l0_1.length) = true := by rw [he]; simp
    cases h3 : l1.all (fun x => inB x 0 200) with
    | false =>
      rw [h3] at c90; have HE := Aside0.mk he; clear he
      go_enter Tryz.func74, Tryz.ntmps74
      go_wp2_with (go_at_call 60; refine c90.mono ?_; rintro e w' ⟨rfl, hb⟩)
      go_ret; exact ⟨by simp [areAgesB, h3], below_step hB1 hb⟩
    | true =>
      rw [h3] at c90; have HE := Aside0.mk he; clear he
      go_enter Tryz.func74, Tryz.ntmps74
      go_wp2_with (go_at_call 60; refine c90.mono ?_; rintro e w' ⟨rfl, hb⟩)
      go_ret; exact ⟨by simp [areAgesB, h3, HE.out], below_step hB1 hb⟩
  · have he1 : ((l1.length : Int) == (l0_1.length : Int)) = false := by rw [beq_eq_false_iff_ne]; omega
    have he2 : (l1.length == l0_1.length) = false := by rw [beq_eq_false_iff_ne]; exact he
    go_enter Tryz.func74, Tryz.ntmps74
    go_wp2; go_ret; exact ⟨by simp [areAgesB, he], hB1⟩
end Go.Proofs.YtdmdahafiiggiabGreatDoor.K
end
section
namespace Go.Proofs.YtdmdahafiiggiabGreatDoor.K
open Go.RowKit Go.Proofs.YtdmdahafiiggiabGreatDoorW.PrintWords Go.Proofs.YtdmdahafiiggiabGreatDoorW.PrintLast Go.Proofs.YtdmdahafiiggiabGreatDoorW.PrintMore
theorem taken_any (x : Int) (TB mb : Nat) (T : List Int) (W : World) (hT : W.cell? ⟨TB, 0, none⟩ = some (.map (some mb))) (hS : Slots W mb T) :
    Calls Tryz.prog 93 #[.int .i64 x, .pointer (some ⟨TB, 0, none⟩)] W fun e w' => e = .returned (.bool (decide (x ∈ T))) ∧ Below W.heap.size W w' := by
  have hlk := lookup_slot hS x; have hlk2 := lookup_slot (hS.below (below_alloc (Below.refl _ W) (.cells #[] 127))) x; clear hS
  go_enter Tryz.func93, Tryz.ntmps93
  go_wp2; go_ret; exact ⟨rfl, (Below.refl _ _).alloc (Nat.le_refl _) _⟩
def leftL (ys T : List Int) : List Int := ys.filter fun x => !decide (x ∈ T)
theorem left_any (YB TB mb : Nat) (A : Option Addr) (c : Nat) (ys T : List Int) (W : World) (hY : W.cell? ⟨YB, 0, none⟩ = some (.slice A ys.length c)) (hC : Kd.C (Kd.int .i64) W A ys.length ys) (hl : ys.length ≤ 1000000) (hT : W.cell? ⟨TB, 0, none⟩ = some (.map (some mb))) (hS : Slots W mb T) :
    Calls Tryz.prog 90 #[.pointer (some ⟨YB, 0, none⟩), .pointer (some ⟨TB, 0, none⟩)] W fun e w' => ∃ v, e = .returned v ∧ Aside0 (Kd.R (Kd.int .i64) 3 w' W.heap.size (fun _ => True) v (leftL ys T)) ∧ Below W.heap.size W w' := by
  have hmf : ∀ (fn : Fn) (first cap : Array Value) (w : World), (Instr.makeFunc fn first cap).run Tryz.prog w = .ok (.func fn first cap) w := fun _ _ _ _ => rfl; have CC := Aside0.mk (clone_any A c ys W hC hl)
  have CD : Aside0 (∀ v w1, Below W.heap.size W w1 → Kd.R (Kd.int .i64) 3 w1 W.heap.size (fun _ => True) v ys → Calls Tryz.prog 91 #[v, .func (.func 93) #[] #[.pointer (some ⟨TB, 0, none⟩)]] w1 fun e w' => ∃ v', e = .returned v' ∧ Aside0 (Kd.R (Kd.int .i64) 3 w' W.heap.size (fun _ => True) v' (leftL ys T)) ∧ Below W.heap.size w1 w') := ⟨fun v w1 hb hR =>
    delFunc_any v ys 93 #[.pointer (some ⟨TB, 0, none⟩)] (fun x => decide (x ∈ T)) W.heap.size w1 hR hl hb.size (enters_of Tryz.func93 (by kernel_rfl) rfl) (fun W' x hW => by
      have hb2 := hb.trans hW
      exact taken_any x TB mb T W' ((hb2.cell (World.block_lt_of_cell? _ _ hT)).trans hT) (hS.below hb2))⟩
  clear hC hS
  go_enter Tryz.func90, Tryz.ntmps90
  go_wp2_with fail
  refine CC.out.mono ?_; rintro e w1 ⟨v, rfl, HR, hb⟩; obtain ⟨A1, c1, ev⟩ := Kd.R_slice HR.out; subst ev
  go_wp2_with fail
  refine (CD.out _ w1 hb HR.out).mono ?_; rintro e w2 ⟨v2, rfl, HR2, hb2⟩; go_wp2; go_ret; exact ⟨_, rfl, HR2, hb.trans hb2⟩
end Go.Proofs.YtdmdahafiiggiabGreatDoor.K
end
section
namespace Go.Proofs.YtdmdahafiiggiabGreatDoor.K
open Go.RowKit Go.Shelf Go.Proofs.YtdmdahafiiggiabGreatDoorW.PrintWords Go.Proofs.YtdmdahafiiggiabGreatDoorW.PrintLast Go.Proofs.YtdmdahafiiggiabGreatDoorW.PrintMore
theorem sort_any (v : Value) (zs : List Int) (base : Nat) (W : World) (h : Kd.R (Kd.int .i64) 3 W base (fun _ => True) v zs) (hl : zs.length ≤ 1000000) :
    Calls Tryz.prog 89 #[v] W fun e w' => e = .returned (.tuple #[]) ∧ Kd.R (Kd.int .i64) 3 w' base (fun _ => True) v (sortL zs) ∧ W.grownBy w' v.ownBlock := by
  have hrow := Kd.own_of_R h
  rcases hrow.2 with ⟨rfl, hz⟩ | ⟨gb, cap', cur, rfl, hbase, hgb, r1, r2, r3, r4⟩
  · obtain rfl : zs = [] := List.eq_nil_of_length_eq_zero hz; refine (AnyM.slices_Sort_int_none Tryz.sortA none 0 W).mono ?_; rintro e w' ⟨rfl, rfl⟩; exact ⟨rfl, by rw [show sortL [] = [] by simp [sortL]]; exact h, World.grownBy.refl _ _⟩
  · have hH : Sort.Holds (Value.int .i64) W gb 0 zs.toArray := holds_of_block_i hgb (by rw [Nat.mul_one] at r4; exact r4); have hgl : gb < W.heap.size := (Array.getElem?_eq_some_iff.1 hgb).1; refine (AnyM.slices_Sort_int Tryz.sortA gb 0 cap' zs W hH hgl (by omega)).mono ?_; rintro e w' ⟨rfl, nn, os, rfl⟩; have hR := ownsRow_sorted_i (n := nn) (os := os) (ts := sortL zs) (ss := zs) (sortL_length zs) hbase hgb r1 r2 r3; refine ⟨rfl, Kd.R_of_own (by rw [sortL_length]; exact hR) (fun _ _ => trivial), grownBy_sorted_i _⟩
end Go.Proofs.YtdmdahafiiggiabGreatDoor.K
end
section
namespace Go.Proofs.YtdmdahafiiggiabGreatDoor.K
open Go.RowKit Go.Proofs.YtdmdahafiiggiabGreatDoorW.PrintWords Go.Proofs.YtdmdahafiiggiabGreatDoorW.PrintLast Go.Proofs.YtdmdahafiiggiabGreatDoorW.PrintMore
attribute [local go_sem] max2_int min2_int max_two min_two max_three min_three max_four min_four
def channel_in.f (a0 : Int) (a1 : Int) (a2 : Int) : Option (Bool) := if a0 ≥ a1 then (some (decide (a0 ≤ a2))) else (some false)
set_option maxHeartbeats 8000000 in
set_option maxRecDepth 100000 in
theorem channel_in.calls (a0 : Int) (a1 : Int) (a2 : Int) (r : Bool) (w : World) (h : channel_in.f a0 a1 a2 = some r) :
  Calls Tryz.prog 62 #[.int .i64 a0, .int .i64 a1, .int .i64 a2] w fun e w' => e = .returned (.bool r) ∧ Drawn0 w w' := by
 have H : (if a0 ≥ a1 then (some (decide (a0 ≤ a2))) else (some false)) = some r := h; clear h
 by_cases c4 : a0 ≥ a1
 ·rw [if_pos c4] at H; replace c4 := decide_eq_true c4; obtain rfl := Option.some.inj H
  go_enter Tryz.func62, Tryz.ntmps62
  go_wp2; go_ret; exact ⟨u0, by repeat (first | exact Drawn0.refl _ | apply Drawn0.step)⟩
 ·rw [if_neg c4] at H; replace c4 := decide_eq_false c4; obtain rfl := Option.some.inj H
  go_enter Tryz.func62, Tryz.ntmps62
  go_wp2; go_ret; exact ⟨u0, by repeat (first | exact Drawn0.refl _ | apply Drawn0.step)⟩
end Go.Proofs.YtdmdahafiiggiabGreatDoor.K
end
section
namespace Go.Proofs.YtdmdahafiiggiabGreatDoor.K
open Go.RowKit Go.Proofs.YtdmdahafiiggiabGreatDoorW.PrintWords Go.Proofs.YtdmdahafiiggiabGreatDoorW.PrintLast Go.Proofs.YtdmdahafiiggiabGreatDoorW.PrintMore
attribute [local go_sem] max2_int min2_int max_two min_two max_three min_three max_four min_four
def channel_isNeed.f (a0 : Int) : Option (Bool) := (channel_in.f a0 1 10000000).bind fun t202 => (some t202)
set_option maxHeartbeats 8000000 in
set_option maxRecDepth 100000 in
theorem channel_isNeed.calls (a0 : Int) (r : Bool) (w : World) (h : channel_isNeed.f a0 = some r) :
  Calls Tryz.prog 77 #[.int .i64 a0] w fun e w' => e = .returned (.bool r) ∧ Drawn0 w w' := by
 have H : ((channel_in.f a0 1 10000000).bind fun t202 => (some t202)) = some r := h; clear h; replace H := Option.bind_eq_some_iff.mp H; obtain ⟨t202, A20, H⟩ := H; replace H : (some t202) = some r := H; have A2 := Aside0.mk A20; clear A20; obtain rfl := Option.some.inj H
 go_enter Tryz.func77, Tryz.ntmps77
 go_wp2_with (first | ((with_reducible refine gate_callee (f := 62) rfl ?_); refine goesL_ (some 4) rfl rfl Tryz.func62 (by kernel_rfl) rfl #[.int .i64 a0, .int .i64 1, .int .i64 10000000] rfl uM ?_; (with_reducible refine (channel_in.calls a0 1 10000000 t202 _ A2.out).mono ?_); rintro e w' ⟨rfl, ⟨nd, rfl⟩⟩; refine ⟨_, rfl, ?_⟩))
 go_ret; exact ⟨u0, by repeat (first | exact Drawn0.refl _ | apply Drawn0.step)⟩
end Go.Proofs.YtdmdahafiiggiabGreatDoor.K
end
section
namespace Go.Proofs.YtdmdahafiiggiabGreatDoor.K
open Go.RowKit Go.Proofs.YtdmdahafiiggiabGreatDoorW.PrintWords Go.Proofs.YtdmdahafiiggiabGreatDoorW.PrintLast Go.Proofs.YtdmdahafiiggiabGreatDoorW.PrintMore
theorem isNeed_any (x : Int) (w : World) : Calls Tryz.prog 77 #[.int .i64 x] w fun e w' => e = .returned (.bool (inB x 1 10000000)) ∧ w = w' := by
  go_enter Tryz.func77, Tryz.ntmps77
  go_wp2_with (go_at_call 62; refine (in_any _ _ _ _).mono ?_; rintro e w' ⟨rfl, rfl⟩)
  go_ret; exact ⟨rfl, rfl⟩
def planB (sp : List Int) (st : List S66) (ages : List Int) (need untl : Int) : Bool := isLineB sp st && areAgesB st.length ages && inB need 1 10000000 && inB untl 0 40
def stepDue (x a untl : Int) (k : Nat) (s : List Int × List Int) : List Int × List Int := if x < 200 ∧ x - a < untl then (s.1 ++ [(k : Int)], s.2 ++ [x - a]) else s
def dueF (L : Int → Int) (ages : List Int) (untl : Int) : Nat → Option (List Int × List Int)
  | 0 => some ([], [])
  | k + 1 => (dueF L ages untl k).bind fun s => if L k < 0 then none else some (stepDue (L k) (rd ages k) untl k s)
theorem dueF_none {L : Int → Int} {ages : List Int} {untl : Int} {k : Nat} (h : dueF L ages untl k = none) : ∀ d, dueF L ages untl (k + d) = none
  | 0 => h
  | d + 1 => by
    show (dueF L ages untl (k + d)).bind _ = none
    rw [dueF_none h d]; rfl
theorem dueF_len {L : Int → Int} {ages : List Int} {untl : Int} : ∀ {k : Nat} {s : List Int × List Int}, dueF L ages untl k = some s → s.1.length ≤ k ∧ s.2.length = s.1.length
  | 0, s, h => by obtain rfl := Option.some.inj h; simp
  | k + 1, s, h => by
    obtain ⟨s0, h0, h⟩ := Option.bind_eq_some_iff.1 h
    split at h
    · cases h
    · have := dueF_len h0; obtain rfl := Option.some.inj h; unfold stepDue
      split
      · simp; omega
      · omega
theorem dueF_mem {L : Int → Int} {ages : List Int} {untl : Int} : ∀ {k : Nat} {s : List Int × List Int}, dueF L ages untl k = some s → ∀ n ∈ s.1, 0 ≤ n ∧ n < k
  | 0, s, h, n, hn => by obtain rfl := Option.some.inj h; cases hn
  | k + 1, s, h, n, hn => by
    obtain ⟨s0, h0, h⟩ := Option.bind_eq_some_iff.1 h
    split at h
    · cases h
    · have := dueF_mem h0; obtain rfl := Option.some.inj h; unfold stepDue at hn
      split at hn
      · rcases List.mem_append.1 hn with hn | hn
        · have := this n hn; omega
        · simp at hn; omega
      · have := this n hn; omega
def okY (ys last : List Int) (i : Nat) (T : List Int) (y : Int) : Bool := decide (y ≤ rd last i) && fitB (last.drop (i + 1)) (leftL ys (T ++ [y]))
def pickF (ys last : List Int) (i : Nat) (T : List Int) : Option Int := (leftL ys T).find? (okY ys last i T)
def stepPick (ys last due : List Int) (i : Nat) (s : List Int × List Int) : List Int × List Int := match pickF ys last i s.1 with
  | none => s
  | some y => (s.1 ++ [y], s.2.set (rd due i).toNat y)
def picks2 {α : Type} : Nat → (Nat → α → α) → α → α
  | 0, _, a => a
  | n + 1, f, a => f n (picks2 n f a)
def picksF (ys last due plan : List Int) (k : Nat) : List Int × List Int := picks2 k (stepPick ys last due) ([], plan)
def planF (sp : List Int) (st : List S66) (ages : List Int) (need untl : Int) : List Int × Int :=
  if planB sp st ages need untl = true then
    match dueF (fun n => latN sp st n need) ages untl ages.length with
    | none => ([], 5)
    | some (due, last) => if (grN last).length = last.length then ((picksF (sortL (grN last)) last due (List.replicate ages.length (-1)) due.length).2, 0) else ([], 5)
  else ([], 2)
set_option maxRecDepth 100000 in
set_option maxHeartbeats 1000000 in
theorem plan_bad (sp : List Int) (st : List S66) (A0 A1 A2 : Option Addr) (c0 c1 c2 : Nat) (ages : List Int) (need untl : Int) (w : World)
    (hr0 : Kd.C (Kd.int .i64) w A0 sp.length sp) (hc0 : sp.length ≤ c0) (hr1 : Kd.C k66 w A1 st.length st) (hc1 : st.length ≤ c1) (hr2 : Kd.C (Kd.int .i64) w A2 ages.length ages) (hc2 : ages.length ≤ c2)
    (hsp : sp.length ≤ 9223372036854775807) (hst : st.length ≤ 9223372036854775807) (hag : ages.length ≤ 9223372036854775807) (hbad : planB sp st ages need untl = false) :
    Calls Tryz.prog 51 #[.agg #[.slice A0 sp.length c0, .slice A1 st.length c1], .slice A2 ages.length c2, .int .i64 need, .int .i64 untl] w fun e w' => e = .returned (.tuple #[.slice none 0 0, .int .i64 2]) ∧ Below w.heap.size w w' := by
  have hu1 := Tryz.underlying60
  have CL : Aside0 (∀ W, Below w.heap.size w W → Calls Tryz.prog 69 #[.agg #[.slice A0 sp.length c0, .slice A1 st.length c1]] W fun e w' => e = .returned (.bool (isLineB sp st)) ∧ Below W.heap.size W w') :=
    ⟨fun W hW => channel_isLine.calls A0 c0 sp A1 c1 st _ W (Kd.C_below hr0 hW) hc0 (Kd.C_below hr1 hW) hc1 (by unfold channel_isLine.f; rw [if_pos ⟨hsp, hst⟩])⟩
  have CG : Aside0 (∀ W, Below w.heap.size w W → Calls Tryz.prog 74 #[.agg #[.slice A0 sp.length c0, .slice A1 st.length c1], .slice A2 ages.length c2] W fun e w' => e = .returned (.bool (areAgesB st.length ages)) ∧ Below W.heap.size W w') :=
    ⟨fun W hW => channel_areAges.calls A0 c0 sp A1 c1 st A2 c2 ages _ W (Kd.C_below hr0 hW) hc0 (Kd.C_below hr1 hW) hc1 (Kd.C_below hr2 hW) hc2 (by unfold channel_areAges.f; rw [if_pos hag])⟩
  clear hr0 hr1 hr2
  have hcase : isLineB sp st = false ∨ (isLineB sp st = true ∧ areAgesB st.length ages = false) ∨ (isLineB sp st = true ∧ areAgesB st.length ages = true ∧ inB need 1 10000000 = false) ∨ (isLineB sp st = true ∧ areAgesB st.length ages = true ∧ inB need 1 10000000 = true ∧ inB untl 0 40 = false) := by
    unfold planB at hbad
    cases h1 : isLineB sp st <;> cases h2 : areAgesB st.length ages <;> cases h3 : inB need 1 10000000 <;> cases h4 : inB untl 0 40 <;> simp [h1, h2, h3, h4] at hbad ⊢
  clear hbad
  rcases hcase with h1 | ⟨h1, h2⟩ | ⟨h1, h2, h3⟩ | ⟨h1, h2, h3, h4⟩
  all_goals
    rw [h1] at CL; try rw [h2] at CG
    go_enter Tryz.func51, Tryz.ntmps51
    go_upto_region 1 with (fail)
    generalize hW0 : World.alloc _ _ = W0; have HB0 : Aside0 (Below w.heap.size w W0) := ⟨by rw [← hW0]; exact (Below.refl _ _).alloc (Nat.le_refl _) _⟩; have HK0 : Aside0 (W0.heap[w.heap.size]? = some (.cells #[.slice A0 sp.length c0, .slice A1 st.length c1] 60 (0, 0))) := ⟨by rw [← hW0]; exact blk_new _ _⟩; clear hW0; have a1 := (blk_cell HK0.out 0).trans rfl; have a2 := (blk_cell HK0.out 1).trans rfl; simp only [List.getElem?_toArray, List.getElem?_cons_zero, List.getElem?_cons_succ] at a1 a2
    go_wp2_with (first | (go_at_call 69; refine (CL.out _ HB0.out).mono ?_; rintro e w1 ⟨rfl, hb1⟩; have HB1 := Aside0.mk (below_step HB0.out hb1); have HK1 := Aside0.mk (blk_below HK0.out hb1); clear a1 a2 hb1; have a1 : w1.cell? ⟨w.heap.size, 0, none⟩ = some (.slice A0 sp.length c0) := (blk_cell HK1.out 0).trans rfl; have a2 : w1.cell? ⟨w.heap.size, 1, none⟩ = some (.slice A1 st.length c1) := (blk_cell HK1.out 1).trans rfl) | (go_at_call 74; refine (CG.out _ HB1.out).mono ?_; rintro e w2 ⟨rfl, hb2⟩; have HB2 := Aside0.mk (below_step HB1.out hb2); clear a1 a2 hb2) | (go_at_call 77; refine (isNeed_any _ _).mono ?_; rintro e w3 ⟨rfl, rfl⟩) | (go_at_call 62; refine (in_any _ _ _ _).mono ?_; rintro e w4 ⟨rfl, rfl⟩))
    go_ret2
    first
      | exact ⟨rfl, HB2.out⟩
      | exact ⟨rfl, HB1.out⟩
abbrev OwnI (w : World) (base : Nat) (v : Value) (xs : List Int) : Prop := Kd.R (Kd.int .i64) 3 w base (fun _ => True) v xs
theorem OwnI.keep {w w1 : World} {base : Nat} {v : Value} {xs : List Int} {row : Option Nat} (h : OwnI w base v xs) (hg : w.grownBy w1 row) (hne : v.ownBlock = none ∨ v.ownBlock ≠ row) : OwnI w1 base v xs :=
  Kd.R_of_own (own_other (Kd.own_of_R h) hg hne) (fun _ _ => trivial)
theorem OwnI.weak {w : World} {b b1 : Nat} {v : Value} {xs : List Int} (h : OwnI w b v xs) (hb : b1 ≤ b) : OwnI w b1 v xs := Kd.R_of_own (own_weaken (Kd.own_of_R h) hb) (fun _ _ => trivial)
theorem grown_setP (w : World) (p : Addr) (v : Value) : w.grownBy (w.setCell p v) (some p.block) := ⟨rfl, rfl, rfl, by simp [World.setCell], fun k hk hne => Below.heap_setCell _ _ _ _ (fun e => hne (by rw [e]))⟩
theorem nodup_le : ∀ (T l : List Int), l.Nodup → (∀ x ∈ l, x ∈ T) → l.length ≤ T.length
  | [], l, _, h => by
    cases l with
    | nil => exact Nat.le_refl _
    | cons x l => exact absurd (h x (List.mem_cons_self ..)) (by simp)
  | t :: T, l, hn, h => by
    have h2 := nodup_le T (l.erase t) (hn.erase t) (fun x hx => by
      have hx2 := (hn.mem_erase_iff).1 hx
      exact (List.mem_cons.1 (h x hx2.2)).resolve_left hx2.1)
    have h3 : l.length ≤ (l.erase t).length + 1 := by
      by_cases hm : t ∈ l
      · rw [List.length_erase_of_mem hm]; have := List.length_pos_of_mem hm; omega
      · rw [List.erase_of_not_mem hm]; omega
    simp; omega
theorem left_len {ys T : List Int} (hn : ys.Nodup) : ys.length ≤ (leftL ys T).length + T.length := by
  have h1 : ys.length = (ys.filter fun x => decide (x ∈ T)).length + (leftL ys T).length := by
    unfold leftL; have := List.length_eq_countP_add_countP (fun x => decide (x ∈ T)) (l := ys); rw [List.countP_eq_length_filter, List.countP_eq_length_filter] at this
    simpa using this
  have h2 := nodup_le T (ys.filter fun x => decide (x ∈ T)) (hn.filter _) (fun x hx => by simpa using (List.mem_filter.1 hx).2)
  omega
theorem left_mem {ys T : List Int} {y : Int} (h : y ∈ leftL ys T) : y ∈ ys ∧ y ∉ T := by
  unfold leftL at h; have := List.mem_filter.1 h; exact ⟨this.1, by simpa using this.2⟩
theorem find_at {p : Int → Bool} {l : List Int} {k : Nat} (hk : k < l.length) (h : (l.take k).any p = false) (hp : p (rd l k) = true) : l.find? p = some (rd l k) := by
  have e : rd l (k : Int) = l[k] := by simp [rd, List.getD, List.getElem?_eq_getElem hk]
  rw [e] at hp ⊢; rw [List.find?_eq_some_iff_getElem]; refine ⟨hp, k, hk, rfl, fun j hj => ?_⟩; rw [List.any_eq_false] at h; have := h l[j] (by rw [List.mem_take_iff_getElem]; exact ⟨j, by omega, rfl⟩)
  simpa using this
theorem any_more {p : Int → Bool} {l : List Int} {j : Nat} (h : (l.take j).any p = false) (hj : j < l.length) (hp : p (rd l j) = false) : (l.take (j + 1)).any p = false := by
  have e : rd l (j : Int) = l[j] := by simp [rd, List.getD, List.getElem?_eq_getElem hj]
  rw [e] at hp; rw [List.take_add_one, List.any_append, h, List.getElem?_eq_getElem hj]; simp [hp]
theorem find_no {p : Int → Bool} {l : List Int} (h : l.any p = false) : l.find? p = none := by
  rw [List.find?_eq_none]; rw [List.any_eq_false] at h; exact h
def ApartV (v u : Value) : Prop := v.ownBlock = none ∨ v.ownBlock ≠ u.ownBlock
theorem ApartV.symm {v u : Value} (h : ApartV v u) : ApartV u v := by
  unfold ApartV at *
  rcases h with h | h
  · cases hu : u.ownBlock with
    | none => exact .inl rfl
    | some k => exact .inr (by rw [h]; simp)
  · exact .inr (Ne.symm h)
theorem OwnI.blk {w : World} {base : Nat} {v : Value} {xs : List Int} (h : OwnI w base v xs) {k : Nat} (hk : v.ownBlock = some k) : base ≤ k ∧ k < w.heap.size := ⟨own_base (Kd.own_of_R h) k hk, own_lt (Kd.own_of_R h) k hk⟩
theorem apart_of {w1 w2 : World} {b : Nat} {v u : Value} {xs ys : List Int} (h : OwnI w1 b v xs) (k : OwnI w2 w1.heap.size u ys) : ApartV v u := by
  cases hv : v.ownBlock with
  | none => exact .inl hv
  | some i =>
    refine .inr ?_; rw [hv]; intro e; have := (h.blk hv).2; have := (k.blk e.symm).1
    omega
theorem ApartV.grown {w : World} {base : Nat} {v u u1 : Value} {xs : List Int} (h : ApartV v u) (hv : OwnI w base v xs) (hat : u1.ownBlock = u.ownBlock ∨ ∃ b, u1.ownBlock = some b ∧ w.heap.size ≤ b) : ApartV v u1 := by
  rcases hat with e | ⟨b, e, hb⟩
  · unfold ApartV at *; rw [e]; exact h
  · cases hk : v.ownBlock with
    | none => exact .inl hk
    | some k => exact .inr (by rw [hk, e]; have := (hv.blk hk).2; intro x; cases x; omega)
theorem plan_case {sp : List Int} {st : List S66} {ages : List Int} {need untl : Int} (h : planB sp st ages need untl = true) : isLineB sp st = true ∧ areAgesB st.length ages = true ∧ inB need 1 10000000 = true ∧ inB untl 0 40 = true := by
  unfold planB at h; simp only [Bool.and_eq_true] at h; exact ⟨h.1.1.1, h.1.1.2, h.1.2, h.2⟩
theorem ages_of {n : Nat} {ages : List Int} (h : areAgesB n ages = true) : ages.length = n ∧ ∀ k : Nat, k < n → 0 ≤ rd ages k ∧ rd ages k ≤ 200 := by
  simp only [areAgesB, Bool.and_eq_true, beq_iff_eq] at h; refine ⟨h.1, fun k hk => ?_⟩; have hlt : k < ages.length := by omega
  have := List.all_eq_true.mp h.2 _ (List.getElem_mem hlt); simp only [inB, Bool.and_eq_true, decide_eq_true_eq] at this; have e : rd ages (k : Int) = ages[k] := by simp [rd, List.getD, List.getElem?_eq_getElem hlt]
  rw [e]; exact this
theorem Slots.grown {w w1 : World} {b : Nat} {T : List Int} {row : Option Nat} (h : Slots w b T) (hg : w.grownBy w1 row) (hne : some b ≠ row) : Slots w1 b T := by
  obtain ⟨es, c, h1, h2, h3⟩ := h; exact ⟨es, c, blk_grown h1 hg hne, h2, h3⟩
structure PAt (b2 b1 : Nat) (w2 : World) (pv dv lv yv : Value) (YB MB : Nat) (due last ys plan T : List Int) (W : World) : Prop where
  p : OwnI W b2 pv plan
  d : OwnI W b2 dv due
  l : OwnI W b2 lv last
  y : OwnI W b1 yv ys
  yb : W.heap[YB]? = some (.cells #[yv] 25 (0, 0))
  tb : W.heap[MB + 1]? = some (.cells #[.map (some MB)] 124 (0, 0))
  sl : Slots W MB T
  bl : Below b2 w2 W
  pd : ApartV pv dv
  pl : ApartV pv lv
  py : ApartV pv yv
  ne : ∀ k, (pv.ownBlock = some k ∨ dv.ownBlock = some k ∨ lv.ownBlock = some k ∨ yv.ownBlock = some k) → k < MB ∧ k ≠ YB
  yl : b2 ≤ MB ∧ YB < MB
theorem PAt.below {b2 b1 : Nat} {w2 : World} {pv dv lv yv : Value} {YB MB : Nat} {due last ys plan T : List Int} {W W1 : World} (h : PAt b2 b1 w2 pv dv lv yv YB MB due last ys plan T W) (hb : Below W.heap.size W W1) : PAt b2 b1 w2 pv dv lv yv YB MB due last ys plan T W1 :=
  { h with p := Kd.R_below h.p hb, d := Kd.R_below h.d hb, l := Kd.R_below h.l hb, y := Kd.R_below h.y hb, yb := blk_below h.yb hb, tb := blk_below h.tb hb, sl := h.sl.below hb, bl := h.bl.trans (hb.mono (Nat.le_trans h.yl.1 (Nat.le_of_lt h.sl.lt))) }
theorem PAt.map {b2 b1 : Nat} {w2 : World} {pv dv lv yv : Value} {YB MB : Nat} {due last ys plan T T1 : List Int} {W : World} {o : Obj} (h : PAt b2 b1 w2 pv dv lv yv YB MB due last ys plan T W) (hs : Slots (setMap W MB o) MB T1) : PAt b2 b1 w2 pv dv lv yv YB MB due last ys plan T1 (setMap W MB o) :=
  { h with
    p := h.p.keep (setMap_grown W MB o) (.inr fun e => absurd (h.ne MB (.inl e)).1 (Nat.lt_irrefl _))
    d := h.d.keep (setMap_grown W MB o) (.inr fun e => absurd (h.ne MB (.inr (.inl e))).1 (Nat.lt_irrefl _))
    l := h.l.keep (setMap_grown W MB o) (.inr fun e => absurd (h.ne MB (.inr (.inr (.inl e)))).1 (Nat.lt_irrefl _))
    y := h.y.keep (setMap_grown W MB o) (.inr fun e => absurd (h.ne MB (.inr (.inr (.inr e)))).1 (Nat.lt_irrefl _))
    yb := (setMap_other (Nat.ne_of_lt h.yl.2)).trans h.yb
    tb := (setMap_other (Nat.succ_ne_self MB)).trans h.tb
    sl := hs
    bl := h.bl.trans (setMap_below h.yl.1) }
theorem PAt.put {b2 b1 m : Nat} {w2 : World} {dv lv yv : Value} {YB MB : Nat} {due last ys plan T : List Int} {W : World} (h : PAt b2 b1 w2 (.slice (some ⟨b2, 0, none⟩) m m) dv lv yv YB MB due last ys plan T W) (i x : Int) : PAt b2 b1 w2 (.slice (some ⟨b2, 0, none⟩) m m) dv lv yv YB MB due last ys (plan.set i.toNat x) T (W.setCell ⟨b2, i.toNat, none⟩ (.int .i64 x)) := by
  have hg := grown_setP W ⟨b2, i.toNat, none⟩ (.int .i64 x); have e : (Value.slice (some ⟨b2, 0, none⟩) m m).ownBlock = some b2 := rfl
  exact { h with
    p := Kd.R_putn h.p i x
    d := h.d.keep hg h.pd.symm
    l := h.l.keep hg h.pl.symm
    y := h.y.keep hg h.py.symm
    yb := blk_grown h.yb hg (by intro e2; exact (h.ne b2 (.inl e)).2 (by cases e2; rfl))
    tb := blk_grown h.tb hg (by intro e2; have := h.yl.1; have e3 : MB + 1 = b2 := Option.some.inj e2; omega)
    sl := h.sl.grown hg (by intro e2; have := (h.ne b2 (.inl e)).1; have e3 : MB = b2 := Option.some.inj e2; omega)
    bl := h.bl.setCell (Nat.le_refl _) _ }
def minus (k m : Nat) : List Int := List.replicate k (-1) ++ List.replicate (m - k) 0
theorem minus_set {k m : Nat} (h : k < m) : (minus k m).set k (-1) = minus (k + 1) m := by
  unfold minus; rw [List.set_append_right _ _ (by simp), List.length_replicate, Nat.sub_self, List.replicate_succ', List.append_assoc]; obtain ⟨d, hd⟩ : ∃ d, m - k = d + 1 := ⟨m - k - 1, by omega⟩; rw [hd, show m - (k + 1) = d by omega, List.replicate_succ]
  rfl
set_option maxRecDepth 100000 in
set_option maxHeartbeats 4000000 in
theorem plan_good (sp : List Int) (st : List S66) (A0 A1 A2 : Option Addr) (c0 c1 c2 : Nat) (ages : List Int) (need untl : Int) (w : World)
    (hr0 : Kd.C (Kd.int .i64) w A0 sp.length sp) (hc0 : sp.length ≤ c0) (hr1 : Kd.C k66 w A1 st.length st) (hc1 : st.length ≤ c1) (hr2 : Kd.C (Kd.int .i64) w A2 ages.length ages) (hc2 : ages.length ≤ c2)
    (hok : planB sp st ages need untl = true) :
    Calls Tryz.prog 51 #[.agg #[.slice A0 sp.length c0, .slice A1 st.length c1], .slice A2 ages.length c2, .int .i64 need, .int .i64 untl] w fun e w' => ∃ v, e = .returned (.tuple #[v, .int .i64 (planF sp st ages need untl).2]) ∧ OwnI w' w.heap.size v (planF sp st ages need untl).1 ∧ Below w.heap.size w w' := by
  have hu1 := Tryz.underlying60; have hmf : ∀ (fn : Fn) (first cap : Array Value) (w : World), (Instr.makeFunc fn first cap).run Tryz.prog w = .ok (.func fn first cap) w := fun _ _ _ _ => rfl; obtain ⟨h1, h2, h3, h4⟩ := plan_case hok; have hlens := line_lens h1; obtain ⟨hal, har⟩ := ages_of h2
  have CL : Aside0 (∀ W, Below w.heap.size w W → Calls Tryz.prog 69 #[.agg #[.slice A0 sp.length c0, .slice A1 st.length c1]] W fun e w' => e = .returned (.bool true) ∧ Below W.heap.size W w') :=
    ⟨fun W hW => h1 ▸ channel_isLine.calls A0 c0 sp A1 c1 st _ W (Kd.C_below hr0 hW) hc0 (Kd.C_below hr1 hW) hc1 (by unfold channel_isLine.f; rw [if_pos ⟨by omega, by omega⟩])⟩
  have CG : Aside0 (∀ W, Below w.heap.size w W → Calls Tryz.prog 74 #[.agg #[.slice A0 sp.length c0, .slice A1 st.length c1], .slice A2 ages.length c2] W fun e w' => e = .returned (.bool true) ∧ Below W.heap.size W w') :=
    ⟨fun W hW => h2 ▸ channel_areAges.calls A0 c0 sp A1 c1 st A2 c2 ages _ W (Kd.C_below hr0 hW) hc0 (Kd.C_below hr1 hW) hc1 (Kd.C_below hr2 hW) hc2 (by unfold channel_areAges.f; rw [if_pos (by omega)])⟩
  have CT : Aside0 (∀ W (n : Nat), Below w.heap.size w W → n < st.length → Calls Tryz.prog 78 #[.agg #[.slice A0 sp.length c0, .slice A1 st.length c1], .int .i64 (n : Int), .int .i64 need] W fun e w' => e = .returned (.int .i64 (latN sp st n need)) ∧ Below W.heap.size W w') :=
    ⟨fun W n hW hn => channel_latest.calls 1000 A0 c0 sp A1 c1 st n need _ W (Kd.C_below hr0 hW) hc0 (Kd.C_below hr1 hW) hc1 (latest_eq h1 (by omega) (by omega) need 1000 (by omega))⟩
  have HC2 := Aside0.mk hr2; have HAR := Aside0.mk har; have HLEN := Aside0.mk (And.intro hlens hal)
  have HPF : Aside0 (planF sp st ages need untl = match dueF (fun n => latN sp st n need) ages untl ages.length with
    | none => ([], 5)
    | some (due, last) => if (grN last).length = last.length then ((picksF (sortL (grN last)) last due (List.replicate ages.length (-1)) due.length).2, 0) else ([], 5)) := ⟨by unfold planF; rw [if_pos hok]⟩
  have hmk := print_make (P := Tryz.prog) 25 3 .i64 8 Tryz.underlying25 info3 (by omega) ages.length (by omega); clear hr0 hr1 hr2 hok h1 h2 har hal hlens; obtain ⟨PF, hPF⟩ : ∃ PF, planF sp st ages need untl = PF := ⟨_, rfl⟩; rw [hPF] at HPF ⊢; clear hPF; obtain ⟨L, hL⟩ : ∃ L : Int → Int, (fun n : Int => latN sp st n need) = L := ⟨_, rfl⟩; have HLR : Aside0 (∀ n, -1 ≤ L n ∧ L n ≤ 200) := ⟨fun n => by rw [← hL]; exact latN_range sp st n need⟩; have HLE : Aside0 (∀ n : Int, latN sp st n need = L n) := ⟨fun n => by rw [← hL]⟩; rw [hL] at HPF; clear hL
  go_enter Tryz.func51, Tryz.ntmps51
  go_upto_region 1 with (fail)
  generalize hW0 : World.alloc _ _ = W0; have HB0 : Aside0 (Below w.heap.size w W0) := ⟨by rw [← hW0]; exact (Below.refl _ _).alloc (Nat.le_refl _) _⟩; have HK0 : Aside0 (W0.heap[w.heap.size]? = some (.cells #[.slice A0 sp.length c0, .slice A1 st.length c1] 60 (0, 0))) := ⟨by rw [← hW0]; exact blk_new _ _⟩; clear hW0; have a1 : W0.cell? ⟨w.heap.size, 0, none⟩ = some (.slice A0 sp.length c0) := (blk_cell HK0.out 0).trans rfl; have a2 : W0.cell? ⟨w.heap.size, 1, none⟩ = some (.slice A1 st.length c1) := (blk_cell HK0.out 1).trans rfl
  go_upto_region 3 with (first | (go_at_call 69; refine (CL.out _ HB0.out).mono ?_; rintro e w1 ⟨rfl, hb1⟩; have HB1 := Aside0.mk (below_step HB0.out hb1); have HK1 := Aside0.mk (blk_below HK0.out hb1); clear a1 a2 hb1; have a1 : w1.cell? ⟨w.heap.size, 0, none⟩ = some (.slice A0 sp.length c0) := (blk_cell HK1.out 0).trans rfl; have a2 : w1.cell? ⟨w.heap.size, 1, none⟩ = some (.slice A1 st.length c1) := (blk_cell HK1.out 1).trans rfl) | (go_at_call 74; refine (CG.out _ HB1.out).mono ?_; rintro e w2 ⟨rfl, hb2⟩; have HB2 := Aside0.mk (below_step HB1.out hb2); have HK2 := Aside0.mk (blk_below HK1.out hb2); clear a1 a2 hb2) | (go_at_call 77; refine (isNeed_any _ _).mono ?_; rintro e w3 ⟨rfl, rfl⟩) | (go_at_call 62; refine (in_any _ _ _ _).mono ?_; rintro e w4 ⟨rfl, rfl⟩))
  clear CL CG; have HM : Aside0 (ages.length ≤ 8) := ⟨by have := HLEN.out; omega⟩
  go_upto_region 5 with (fail)
  generalize hWM : World.alloc w2 _ = wM
  have HOP : Aside0 (OwnI wM w2.heap.size (.slice (some ⟨w2.heap.size, 0, none⟩) ages.length ages.length) (minus 0 ages.length)) := ⟨by
    rw [← hWM]; have := own_made w2 w2.heap.size 3 .i64 ages.length (Nat.le_refl _) (by have := HM.out; omega); have e : minus 0 ages.length = List.replicate ages.length 0 := by simp [minus]
    rw [e]
    exact Kd.R_of_own (by rw [List.length_replicate]; exact this) (fun _ _ => trivial)⟩
  have HBM : Aside0 (Below w2.heap.size w2 wM) := ⟨by rw [← hWM]; exact (Below.refl _ _).alloc (Nat.le_refl _) _⟩; clear hWM hmk; have hm8 : ages.length ≤ 8 := HM.out; go_wp2; clear hm8
  go_loopg [11, 12, 48] ages.length (fun kq v11 v12 v48 w' => ∃ (j : Nat) (due last : List Int), v48 = .int .i64 (j : Int) ∧ Aside0 (j + kq = ages.length) ∧ Aside0 (dueF L ages untl j = some (due, last)) ∧ Aside0 (OwnI w' w2.heap.size (.slice (some ⟨w2.heap.size, 0, none⟩) ages.length ages.length) (minus j ages.length) ∧ OwnI w' w2.heap.size v11 due ∧ OwnI w' w2.heap.size v12 last) ∧ Aside0 (ApartV v11 v12 ∧ ApartV v11 (.slice (some ⟨w2.heap.size, 0, none⟩) ages.length ages.length) ∧ ApartV v12 (.slice (some ⟨w2.heap.size, 0, none⟩) ages.length ages.length)) ∧ Aside0 (Below w2.heap.size w2 w'))
  case atStart => exact ⟨0, [], [], rfl, ⟨by omega⟩, ⟨rfl⟩, ⟨HOP.out, Kd.R_nil _ _ _ _ _, Kd.R_nil _ _ _ _ _⟩, ⟨.inl rfl, .inl rfl, .inl rfl⟩, HBM⟩
  case round =>
    obtain ⟨j, due, last, rfl, HJ, HD, HO, HA, HW⟩ := hrel; obtain ⟨Ad, cd, ed⟩ := Kd.R_slice HO.out.2.1; obtain ⟨Al, cl, el⟩ := Kd.R_slice HO.out.2.2; subst ed el; have HLN : Aside0 (due.length ≤ j ∧ last.length = due.length) := ⟨dueF_len HD.out⟩
    cases gk with
    | zero =>
      have c3 : decide ((j : Int) < (ages.length : Int)) = false := decide_eq_false (by have := HJ.out; omega); have c4 : ¬ (j < ages.length) := by have := HJ.out; omega
      have hj : j = ages.length := by have := HJ.out; omega
      subst hj; have HBw : Aside0 (Below w.heap.size w wr) := ⟨below_then HB2.out HB2.out.size HW.out⟩; have HPL : Aside0 (OwnI wr w2.heap.size (.slice (some ⟨w2.heap.size, 0, none⟩) ages.length ages.length) (List.replicate ages.length (-1))) := ⟨by have := HO.out.1; rwa [show minus ages.length ages.length = List.replicate ages.length (-1) by simp [minus]] at this⟩; have HLL : Aside0 (last.length ≤ 8 ∧ due.length = last.length) := ⟨by have := HLN.out; have := HM.out; omega⟩
      have CGR : Aside0 (Calls Tryz.prog 88 #[.slice Al last.length cl] wr fun e w' => ∃ v0_ : Value, e = .returned (.tuple #[v0_, .bool (decide ((grN last).length = last.length))]) ∧ Kd.R (Kd.int .i64) 3 w' wr.heap.size (fun _ => True) v0_ (grN last) ∧ Below wr.heap.size wr w') := ⟨by
        obtain ⟨_, _, e1, hl1, hC1⟩ := Kd.R_reads HO.out.2.2
        cases e1
        exact channel_greatest.calls 1000 Al cl last _ _ wr hC1 hl1 (greatest_eq (by have := HLL.out; omega) 1000 (by have := HLL.out; omega))⟩
      have HPF2 : Aside0 (PF = if (grN last).length = last.length then ((picksF (sortL (grN last)) last due (List.replicate ages.length (-1)) due.length).2, 0) else ([], 5)) := ⟨by rw [HPF.out, HD.out]⟩
      go_wp2_with (fail)
      refine CGR.out.mono ?_; rintro e w4 ⟨vy, rfl, hRy, hb4⟩; obtain ⟨Ay, cy, ey⟩ := Kd.R_slice hRy; subst ey; have HRY := Aside0.mk hRy; have HB4 := Aside0.mk hb4; have HO4 : Aside0 (OwnI w4 w2.heap.size (.slice (some ⟨w2.heap.size, 0, none⟩) ages.length ages.length) (List.replicate ages.length (-1)) ∧ OwnI w4 w2.heap.size (.slice Ad due.length cd) due ∧ OwnI w4 w2.heap.size (.slice Al last.length cl) last) := ⟨Kd.R_below HPL.out hb4, Kd.R_below HO.out.2.1 hb4, Kd.R_below HO.out.2.2 hb4⟩; clear hRy hb4 CGR; obtain ⟨g, hg⟩ : ∃ g, grN last = g := ⟨_, rfl⟩; rw [hg] at HRY HPF2 ⊢; have HGE := Aside0.mk hg; clear hg c3 c4
      by_cases hen : g.length = last.length
      case neg =>
        have c5 : decide (g.length = last.length) = false := decide_eq_false hen; have HN : Aside0 (PF = ([], 5)) := ⟨by rw [HPF2.out, if_neg hen]⟩; clear hen; go_wp2
        go_ret2
        rw [HN.out]; exact ⟨_, rfl, Kd.R_nil _ _ _ _ _, (below_step HBw.out HB4.out).alloc (below_step HBw.out HB4.out).size _⟩
      case pos =>
        have c5 : decide (g.length = last.length) = true := decide_eq_true hen; have HEN := Aside0.mk hen; clear hen
        go_upto_region 18 with (fail)
        generalize hWY : World.alloc w4 _ = wY; have HYB : Aside0 (wY.heap[w4.heap.size]? = some (.cells #[.slice Ay g.length cy] 25 (0, 0))) := ⟨by rw [← hWY]; exact blk_new _ _⟩; have HBY : Aside0 (Below w4.heap.size w4 wY ∧ wY.heap.size = w4.heap.size + 1) := ⟨by rw [← hWY]; exact ⟨(Below.refl _ _).alloc (Nat.le_refl _) _, by simp⟩⟩; clear hWY; have HAP : Aside0 (ApartV (.slice (some ⟨w2.heap.size, 0, none⟩) ages.length ages.length) (.slice Ay g.length cy) ∧ ApartV (.slice Ad due.length cd) (.slice Ay g.length cy) ∧ ApartV (.slice Al last.length cl) (.slice Ay g.length cy)) := ⟨apart_of HPL.out HRY.out, apart_of HO.out.2.1 HRY.out, apart_of HO.out.2.2 HRY.out⟩; have HOY : Aside0 (OwnI wY w2.heap.size (.slice (some ⟨w2.heap.size, 0, none⟩) ages.length ages.length) (List.replicate ages.length (-1)) ∧ OwnI wY w2.heap.size (.slice Ad due.length cd) due ∧ OwnI wY w2.heap.size (.slice Al last.length cl) last ∧ OwnI wY wr.heap.size (.slice Ay g.length cy) g) := ⟨Kd.R_below HO4.out.1 HBY.out.1, Kd.R_below HO4.out.2.1 HBY.out.1, Kd.R_below HO4.out.2.2 HBY.out.1, Kd.R_below HRY.out HBY.out.1⟩; have HSRT := Aside0.mk (sort_any (.slice Ay g.length cy) g wr.heap.size wY HOY.out.2.2.2 (by have := HEN.out; have := HLL.out; omega)); have y0 : wY.cell? ⟨w4.heap.size, 0, none⟩ = some (.slice Ay g.length cy) := (blk_cell HYB.out 0).trans rfl
        go_wp2_with (fail)
        refine HSRT.out.mono ?_; rintro e w5 ⟨rfl, hRs, hgs⟩; have HRS := Aside0.mk hRs; have HGS := Aside0.mk hgs; have HO5 : Aside0 (OwnI w5 w2.heap.size (.slice (some ⟨w2.heap.size, 0, none⟩) ages.length ages.length) (List.replicate ages.length (-1)) ∧ OwnI w5 w2.heap.size (.slice Ad due.length cd) due ∧ OwnI w5 w2.heap.size (.slice Al last.length cl) last) := ⟨HOY.out.1.keep hgs HAP.out.1, HOY.out.2.1.keep hgs HAP.out.2.1, HOY.out.2.2.1.keep hgs HAP.out.2.2⟩; have HYB5 : Aside0 (w5.heap[w4.heap.size]? = some (.cells #[.slice Ay g.length cy] 25 (0, 0))) := ⟨blk_grown HYB.out hgs (by intro e; have := (OwnI.blk HRY.out e.symm).2; omega)⟩; have HB5 : Aside0 (Below w2.heap.size w2 w5 ∧ w4.heap.size + 1 ≤ w5.heap.size) := ⟨((below_step HW.out HB4.out).trans (HBY.out.1.mono (below_step HW.out HB4.out).size)).grown hgs (by have := (below_step HW.out HB4.out).size; have := HBY.out.2; omega) (by intro k hk; have := (OwnI.blk HRY.out hk).1; have := HW.out.size; omega), by have := hgs.size; have := HBY.out.2; omega⟩; clear y0 hRs hgs HSRT; have hmm := @run_makeMap Tryz.prog
        go_upto_region 21 with (fail)
        generalize hWT : World.alloc (World.alloc w5 _) _ = wT; have HBT : Aside0 (Below w5.heap.size w5 wT) := ⟨by rw [← hWT]; exact ((Below.refl _ _).alloc (Nat.le_refl _) _).alloc (by simp) _⟩
        have HTB : Aside0 (wT.heap[w5.heap.size + 1]? = some (.cells #[.map (some w5.heap.size)] 124 (0, 0))) := ⟨by
          rw [← hWT]; have := blk_new (w5.alloc (.map #[] 0)) (.cells #[.map (some w5.heap.size)] 124)
          rwa [World.size_alloc] at this⟩
        have HSL : Aside0 (Slots wT w5.heap.size []) := ⟨⟨#[], 0, by rw [← hWT]; exact blk_alloc (blk_new _ _) _, rfl, fun e he => by simp at he⟩⟩; clear hWT hmm; obtain ⟨ys, hys⟩ : ∃ ys, sortL g = ys := ⟨_, rfl⟩
        have HYS : Aside0 (ys.Nodup ∧ ys.length = last.length) := ⟨by
          rw [← hys]; refine ⟨?_, by rw [sortL_length]; exact HEN.out⟩; have hp : (sortL g).Perm g := List.mergeSort_perm _ _; rw [hp.nodup_iff, ← HGE.out]
          exact (gr_desc last 41 40 [] List.Pairwise.nil (by simp) (by omega)).1.imp (fun {a b} h => by omega)⟩
        have HPF3 : Aside0 (PF = ((picksF ys last due (List.replicate ages.length (-1)) due.length).2, 0)) := ⟨by rw [HPF2.out, if_pos HEN.out, hys]⟩; have HYN : Aside0 (g.length = ys.length) := ⟨by rw [← hys, sortL_length]⟩; rw [hys] at HRS; clear hys
        obtain ⟨b1, HP0⟩ : ∃ b1, Aside0 (PAt w2.heap.size b1 w2 (.slice (some ⟨w2.heap.size, 0, none⟩) ages.length ages.length) (.slice Ad due.length cd) (.slice Al last.length cl) (.slice Ay ys.length cy) w4.heap.size w5.heap.size due last ys (List.replicate ages.length (-1)) [] wT) := ⟨wr.heap.size, ⟨by rw [← HYN.out]; exact {
          p := Kd.R_below HO5.out.1 HBT.out
          d := Kd.R_below HO5.out.2.1 HBT.out
          l := Kd.R_below HO5.out.2.2 HBT.out
          y := Kd.R_below HRS.out HBT.out
          yb := blk_below HYB5.out HBT.out
          tb := HTB.out
          sl := HSL.out
          bl := below_step HB5.out.1 HBT.out
          pd := HA.out.2.1.symm
          pl := HA.out.2.2.symm
          py := HAP.out.1
          ne := fun k hk => by
            have e4 := HB4.out.size; have e5 := HB5.out.2; have ew := HW.out.size
            rcases hk with hk | hk | hk | hk
            · have := (OwnI.blk HO4.out.1 hk).2; omega
            · have := (OwnI.blk HO4.out.2.1 hk).2; omega
            · have := (OwnI.blk HO4.out.2.2 hk).2; omega
            · have := (OwnI.blk HRY.out hk).2; omega
          yl := by
            have e4 := HB4.out.size; have e5 := HB5.out.2; have ew := HW.out.size
            exact ⟨by omega, by omega⟩ }⟩⟩
        go_wp2
        go_loopg [95] due.length (fun kq v95 W' => ∃ (i : Nat) (T plan : List Int), v95 = .int .i64 (i : Int) ∧ Aside0 (i + kq = due.length) ∧ Aside0 (picksF ys last due (List.replicate ages.length (-1)) i = (T, plan)) ∧ Aside0 (T.length ≤ i) ∧ Aside0 (PAt w2.heap.size b1 w2 (.slice (some ⟨w2.heap.size, 0, none⟩) ages.length ages.length) (.slice Ad due.length cd) (.slice Al last.length cl) (.slice Ay ys.length cy) w4.heap.size w5.heap.size due last ys plan T W'))
        case atStart => exact ⟨0, [], _, rfl, ⟨by omega⟩, ⟨rfl⟩, ⟨Nat.le_refl _⟩, HP0⟩
        case round =>
          obtain ⟨i, T, plan, rfl, HI, HPK, HTL, HP⟩ := hrel
          cases gk with
          | zero =>
            have c3 : decide ((i : Int) < (due.length : Int)) = false := decide_eq_false (by have := HI.out; omega); have HN : Aside0 (PF = (plan, 0)) := ⟨by rw [HPF3.out, show due.length = i by have := HI.out; omega, HPK.out]⟩; have c4 : ¬ (i < due.length) := by have := HI.out; omega
            go_wp2
            go_ret2
            rw [HN.out]; exact ⟨_, rfl, HP.out.p.weak HB2.out.size, below_then HB2.out HB2.out.size HP.out.bl⟩
          | succ k3 =>
            have c3 : decide ((i : Int) < (due.length : Int)) = true := decide_eq_true (by have := HI.out; omega); have p1 : (0 : Int) ≤ (i : Int) := by omega
            have p2 : (i : Int) < (due.length : Int) := by have := HI.out; omega
            obtain ⟨_, _, ed, _, hCd⟩ := Kd.R_reads HP.out.d
            cases ed
            obtain ⟨ad, ea, x0⟩ := Kd.at_int hCd i p1 p2
            cases ea
            rw [Int.toNat_natCast] at x0
            have HNM : Aside0 (0 ≤ rd due (i : Int) ∧ rd due (i : Int) < (ages.length : Int)) := ⟨by
              have hm := dueF_mem HD.out _ (show rd due (i : Int) ∈ due by
                have hlt : i < due.length := by omega
                have e : rd due (i : Int) = due[i] := by simp [rd, List.getD, List.getElem?_eq_getElem hlt]
                rw [e]; exact List.getElem_mem hlt)
              exact hm⟩
            have q1 := eq_true p1; have q2 := eq_true p2; obtain ⟨n, hn⟩ : ∃ n, rd due (i : Int) = n := ⟨_, rfl⟩; rw [hn] at x0 HNM; have HNE := Aside0.mk hn; clear hCd hn; obtain ⟨_, _, ey, _, hCy⟩ := Kd.R_reads HP.out.y
            cases ey
            have HLF := Aside0.mk (left_any w4.heap.size (w5.heap.size + 1) w5.heap.size Ay cy ys T wr ((blk_cell HP.out.yb 0).trans rfl) hCy (by have := HYS.out; have := HLL.out; omega) ((blk_cell HP.out.tb 0).trans rfl) HP.out.sl); clear hCy
            go_wp2_with (fail)
            refine HLF.out.mono ?_; rintro e w6 ⟨vC, rfl, HC6, hb6⟩; obtain ⟨AC, cC, eC⟩ := Kd.R_slice HC6.out; subst eC; have HB6 := Aside0.mk hb6; have HP6 := Aside0.mk (HP.out.below hb6); clear hb6 HLF x0 c3; obtain ⟨C, hC⟩ : ∃ C, leftL ys T = C := ⟨_, rfl⟩; rw [hC] at HC6 ⊢; have HCE := Aside0.mk hC
            have HCL : Aside0 (C.length ≤ 8) := ⟨by
              rw [← hC]; have := List.length_filter_le (fun x => !decide (x ∈ T)) ys; unfold leftL
              have := HYS.out; have := HLL.out; omega⟩
            clear hC; obtain ⟨bC, HC7⟩ : ∃ bC, Aside0 (OwnI w6 bC (.slice AC C.length cC) C ∧ w5.heap.size < bC) := ⟨wr.heap.size, ⟨HC6.out, HP.out.sl.lt⟩⟩; have hIL : i < last.length := by have := HLL.out; omega
            have HIL := Aside0.mk hIL; clear hIL; go_wp2
            go_loopg [103] C.length (fun kq v103 W' => ∃ (j : Nat), v103 = .int .i64 (j : Int) ∧ Aside0 (j + kq = C.length) ∧ Aside0 ((C.take j).any (okY ys last i T) = false) ∧ Aside0 (OwnI W' bC (.slice AC C.length cC) C) ∧ Aside0 (PAt w2.heap.size b1 w2 (.slice (some ⟨w2.heap.size, 0, none⟩) ages.length ages.length) (.slice (some ad) due.length cd) (.slice Al last.length cl) (.slice Ay ys.length cy) w4.heap.size w5.heap.size due last ys plan T W'))
            case atStart => exact ⟨0, rfl, ⟨by omega⟩, ⟨rfl⟩, ⟨HC7.out.1⟩, HP6⟩
            case round =>
              obtain ⟨j, rfl, HJ3, HNO, HCR, HPJ⟩ := hrel
              cases gk with
              | zero =>
                have c3 : decide ((j : Int) < (C.length : Int)) = false := decide_eq_false (by have := HJ3.out; omega); have c4 : ¬ (j < C.length) := by have := HJ3.out; omega
                have HPN : Aside0 (picksF ys last due (List.replicate ages.length (-1)) (i + 1) = (T, plan)) := ⟨by
                  have h1 : picksF ys last due (List.replicate ages.length (-1)) (i + 1) = stepPick ys last due i (picksF ys last due (List.replicate ages.length (-1)) i) := rfl
                  have h2 : pickF ys last i T = none := by
                    have hj : j = C.length := by have := HJ3.out; omega
                    have h3 := HNO.out; rw [hj, List.take_length] at h3; unfold pickF; rw [HCE.out]; exact find_no h3
                  rw [h1, HPK.out]; unfold stepPick
                  simp only [h2]⟩
                go_wp2
                go_roundg k3
                case measure => omega
                case rel => exact ⟨i + 1, T, plan, (by rw [IntWalk.wrap64_in _ (by have := HLL.out; have := HIL.out; omega), Int.natCast_add, Int.natCast_one]), ⟨by have := HI.out; omega⟩, HPN, ⟨by have := HTL.out; omega⟩, HPJ⟩
              | succ k4 =>
                have c3 : decide ((j : Int) < (C.length : Int)) = true := decide_eq_true (by have := HJ3.out; omega); have p1 : (0 : Int) ≤ (j : Int) := by omega
                have p2 : (j : Int) < (C.length : Int) := by have := HJ3.out; omega
                have q1 := eq_true p1; have q2 := eq_true p2; obtain ⟨_, _, eC2, _, hCC⟩ := Kd.R_reads HCR.out
                cases eC2
                obtain ⟨aC, eaC, x0⟩ := Kd.at_int hCC j p1 p2
                cases eaC
                rw [Int.toNat_natCast] at x0; obtain ⟨y, hy⟩ : ∃ y, rd C (j : Int) = y := ⟨_, rfl⟩; rw [hy] at x0; have HYE := Aside0.mk hy
                have HYL : Aside0 (y ∈ ys ∧ y ∉ T) := ⟨left_mem (by
                  have hlt : j < C.length := by omega
                  have e : rd C (j : Int) = C[j] := by simp [rd, List.getD, List.getElem?_eq_getElem hlt]
                  rw [HCE.out, ← hy, e]; exact List.getElem_mem hlt)⟩
                clear hCC hy; obtain ⟨o, hup, hs7⟩ := update_slot HPJ.out.sl y HYL.out.2; have z1 : wr.cell? ⟨w5.heap.size + 1, 0, none⟩ = some (.map (some w5.heap.size)) := (blk_cell HPJ.out.tb 0).trans rfl; have HP7 := Aside0.mk (HPJ.out.map hs7); have HC8 : Aside0 (OwnI (setMap wr w5.heap.size o) bC (.slice (some aC) C.length cC) C) := ⟨HCR.out.keep (setMap_grown _ _ _) (.inr fun e => by have := (OwnI.blk HCR.out e).1; have := HC7.out.2; omega)⟩; clear hs7
                go_upto_region 28 with (fail)
                clear hup x0 z1 q1 q2 p1 p2; generalize setMap wr w5.heap.size o = w7 at HP7 HC8 ⊢; obtain ⟨_, _, eL2, _, hCl⟩ := Kd.R_reads HP7.out.l
                cases eL2
                obtain ⟨al, eal, x0⟩ := Kd.at_int hCl i (by omega) (by have := HIL.out; omega)
                cases eal
                rw [Int.toNat_natCast] at x0; clear hCl; have p3 : (0 : Int) ≤ (i : Int) := by omega
                have p4 : (i : Int) < (last.length : Int) := by have := HIL.out; omega
                have q3 := eq_true p3; have q4 := eq_true p4; obtain ⟨l, hl⟩ : ∃ l, rd last (i : Int) = l := ⟨_, rfl⟩; rw [hl] at x0; have HLE2 := Aside0.mk hl; clear hl
                by_cases hyl : y ≤ l
                · have c5 : decide (y ≤ l) = true := decide_eq_true hyl; have hi8 : (i : Int) + 1 ≤ (last.length : Int) ∧ last.length ≤ 8 := by have := HIL.out; have := HLL.out; omega
                  have hi9 : (0 : Int) ≤ (i : Int) + 1 := by omega
                  have HW1 : Aside0 (wrap64 ((i : Int) + 1) = (i : Int) + 1) := ⟨IntWalk.wrap64_in _ (by omega)⟩
                  have HFT : Aside0 (∀ W AF cF (zs : List Int), Below w7.heap.size w7 W → Kd.C (Kd.int .i64) W AF zs.length zs → zs.length ≤ 1000000 → last.length - (i + 1) ≤ zs.length → Calls Tryz.prog 94 #[.slice (if cl = i + 1 then some al else some (al.add (i + 1))) (last.length - (i + 1)) (cl - (i + 1)), .slice AF zs.length cF] W fun e w' => e = .returned (.bool (fitB (last.drop (i + 1)) zs)) ∧ Below W.heap.size W w') := ⟨fun W AF cF zs hb hz hzl hle => by
                    obtain ⟨_, _, e1, hlc, hCl⟩ := Kd.R_reads HP7.out.l
                    cases e1
                    have h := Kd.C_drop (m := i + 1) (Kd.C_below hCl hb) (by have := HIL.out; omega) hlc; have hsz : (Kd.int .i64).sz = 1 := rfl; rw [hsz, Nat.mul_one] at h; have := fit_any _ AF (cl - (i + 1)) cF (last.drop (i + 1)) zs W h hz (by rw [List.length_drop]; have := HLL.out; omega) hzl (by rw [List.length_drop]; exact hle); rw [List.length_drop] at this
                    exact this⟩
                  have HLF : Aside0 (∀ W, Below w7.heap.size w7 W → Calls Tryz.prog 90 #[.pointer (some ⟨w4.heap.size, 0, none⟩), .pointer (some ⟨w5.heap.size + 1, 0, none⟩)] W fun e w' => ∃ v, e = .returned v ∧ Aside0 (OwnI w' W.heap.size v (leftL ys (T ++ [y]))) ∧ Below W.heap.size W w') := ⟨fun W hb => by
                    have hPW := HP7.out.below hb; obtain ⟨_, _, ey, _, hCy⟩ := Kd.R_reads hPW.y
                    cases ey
                    exact left_any w4.heap.size (w5.heap.size + 1) w5.heap.size Ay cy ys (T ++ [y]) W ((blk_cell hPW.yb 0).trans rfl) hCy (by have := HYS.out; have := HLL.out; omega) ((blk_cell hPW.tb 0).trans rfl) hPW.sl⟩
                  obtain ⟨aX, haX⟩ : ∃ aX, (if cl = i + 1 then some al else some (al.add (i + 1))) = aX := ⟨_, rfl⟩; have HAX := Aside0.mk haX; rw [haX] at HFT; have HI9 := Aside0.mk (And.intro hi9 hi8.1); clear haX hi8 hi9; refine start_ (n := 15) (S := fun w' => w'.cell? (al.add i) = some (.int .i64 l)) (ds := [12, 13]) #[false, false, false, false, false, false, false, false, false, false, false, false, false, false, false] (by kernel_rfl) rfl rfl x0 (fun hHeld => ?_); have HDR : Aside0 (Below w7.heap.size w7 w7.drew) := ⟨below_drew1 (Below.refl _ _)⟩; generalize w7.drew = w8 at HDR hHeld ⊢; refine pure_ (i := 0) (N := (some 111)) (v := ?_) (a' := ?_) #[true, false, false, false, false, false, false, false, false, false, false, false, false, false, false] rfl rfl (by kernel_rfl) (fun _ _ _ h => h) (Or.inl ⟨by rfl, ?_⟩) ?_ ?_; rotate_left
                  · intro w'
                    go_simp
                    with_reducible rfl
                  rotate_left
                  · simp only [Act.put, List.setIfInBounds_toArray, List.set_cons_zero, List.set_cons_succ, i64_w, i32_w]
                    rfl
                  refine pure_ (i := 1) (N := (some 112)) (v := ?_) (a' := ?_) #[true, true, false, false, false, false, false, false, false, false, false, false, false, false, false] rfl rfl (by kernel_rfl) (fun _ _ _ h => h) (Or.inl ⟨by rfl, ?_⟩) ?_ ?_; rotate_left
                  · intro w'
                    go_simp
                    with_reducible rfl
                  rotate_left
                  · simp only [Act.put, List.setIfInBounds_toArray, List.set_cons_zero, List.set_cons_succ, i64_w, i32_w]
                    rfl
                  refine pure_ (i := 2) (N := (some 113)) (v := ?_) (a' := ?_) #[true, true, true, false, false, false, false, false, false, false, false, false, false, false, false] rfl rfl (by kernel_rfl) (fun _ _ _ h => h) (Or.inl ⟨by rfl, ?_⟩) ?_ ?_; rotate_left
                  · intro w'
                    go_simp
                    with_reducible rfl
                  rotate_left
                  · simp only [Act.put, List.setIfInBounds_toArray, List.set_cons_zero, List.set_cons_succ, i64_w, i32_w]
                    rfl
                  refine pure_ (i := 3) (N := (some 114)) (v := ?_) (a' := ?_) #[true, true, true, true, false, false, false, false, false, false, false, false, false, false, false] rfl rfl (by kernel_rfl) (fun _ _ _ h => h) (Or.inl ⟨by rfl, ?_⟩) ?_ ?_; rotate_left
                  · intro w'
                    go_simp
                    with_reducible rfl
                  rotate_left
                  · simp only [Act.put, List.setIfInBounds_toArray, List.set_cons_zero, List.set_cons_succ, i64_w, i32_w]
                    rfl
                  refine take_ (i := 4) (N := (some 115)) (v := ?_) (a' := ?_) #[true, true, true, true, true, false, false, false, false, false, false, false, false, false, false] rfl rfl (by kernel_rfl) (fun _ _ _ h => h) (Or.inl ⟨by rfl, ?_⟩) hHeld ?_ ?_; rotate_left
                  · rintro w' s0
                    go_simp
                    with_reducible rfl
                  rotate_left
                  · simp only [Act.put, List.setIfInBounds_toArray, List.set_cons_zero, List.set_cons_succ, i64_w, i32_w]
                    rfl
                  refine pure_ (i := 5) (N := (some 116)) (v := ?_) (a' := ?_) #[true, true, true, true, true, true, false, false, false, false, false, false, false, false, false] rfl rfl (by kernel_rfl) (fun _ _ _ h => h) (Or.inl ⟨by rfl, ?_⟩) ?_ ?_; rotate_left
                  · intro w'
                    go_simp
                    with_reducible rfl
                  rotate_left
                  · simp only [Act.put, List.setIfInBounds_toArray, List.set_cons_zero, List.set_cons_succ, i64_w, i32_w]
                    rfl
                  refine pure_ (i := 6) (N := (some 117)) (v := ?_) (a' := ?_) #[true, true, true, true, true, true, true, false, false, false, false, false, false, false, false] rfl rfl (by kernel_rfl) (fun _ _ _ h => h) (Or.inl ⟨by rfl, ?_⟩) ?_ ?_; rotate_left
                  · intro w'
                    go_simp
                    with_reducible rfl
                  rotate_left
                  · simp only [Act.put, List.setIfInBounds_toArray, List.set_cons_zero, List.set_cons_succ, i64_w, i32_w]
                    rfl
                  refine pure_ (i := 7) (N := (some 118)) (v := ?_) (a' := ?_) #[true, true, true, true, true, true, true, true, false, false, false, false, false, false, false] rfl rfl (by kernel_rfl) (fun _ _ _ h => h) (Or.inl ⟨by rfl, ?_⟩) ?_ ?_; rotate_left
                  · intro w'
                    go_simp
                    with_reducible rfl
                  rotate_left
                  · simp only [Act.put, List.setIfInBounds_toArray, List.set_cons_zero, List.set_cons_succ, i64_w, i32_w]
                    rfl
                  refine pure_ (i := 8) (N := (some 119)) (v := ?_) (a' := ?_) #[true, true, true, true, true, true, true, true, true, false, false, false, false, false, false] rfl rfl (by kernel_rfl) (fun _ _ _ h => h) (Or.inl ⟨by rfl, ?_⟩) ?_ ?_; rotate_left
                  · intro w'
                    go_simp
                    with_reducible rfl
                  rotate_left
                  · simp only [Act.put, List.setIfInBounds_toArray, List.set_cons_zero, List.set_cons_succ, i64_w, i32_w]
                    rfl
                  refine pure_ (i := 9) (N := (some 120)) (v := ?_) (a' := ?_) #[true, true, true, true, true, true, true, true, true, true, false, false, false, false, false] rfl rfl (by kernel_rfl) (fun _ _ _ h => h) (Or.inl ⟨by rfl, ?_⟩) ?_ ?_; rotate_left
                  · intro w'
                    go_simp
                    with_reducible rfl
                  rotate_left
                  · simp only [Act.put, List.setIfInBounds_toArray, List.set_cons_zero, List.set_cons_succ, i64_w, i32_w]
                    rfl
                  refine pure_ (i := 10) (N := (some 121)) (v := .slice aX (last.length - (i + 1)) (cl - (i + 1))) (a' := ?_) #[true, true, true, true, true, true, true, true, true, true, true, false, false, false, false] rfl rfl (by kernel_rfl) (fun _ _ _ h => h) (Or.inl ⟨by rfl, ?_⟩) ?_ ?_
                  · intro w'; have haX := HAX.out; have q5 := eq_true HI9.out.1; have q6 := eq_true HI9.out.2; have hw1 := HW1.out
                    go_simp
                    exact haX
                  rotate_left
                  · simp only [Act.put, List.setIfInBounds_toArray, List.set_cons_zero, List.set_cons_succ, i64_w, i32_w]
                    rfl
                  refine pure_ (i := 11) (N := (some 122)) (v := ?_) (a' := ?_) #[true, true, true, true, true, true, true, true, true, true, true, true, false, false, false] rfl rfl (by kernel_rfl) (fun _ _ _ h => h) (Or.inl ⟨by rfl, ?_⟩) ?_ ?_; rotate_left
                  · intro w'
                    go_simp
                    with_reducible rfl
                  rotate_left
                  · simp only [Act.put, List.setIfInBounds_toArray, List.set_cons_zero, List.set_cons_succ, i64_w, i32_w]
                    rfl
                  have HP8 := Aside0.mk (HP7.out.below HDR.out); have HC9 : Aside0 (OwnI w8 bC (.slice (some aC) C.length cC) C) := ⟨Kd.R_below HC8.out HDR.out⟩; refine last_ (i := 12) (N := some 123) #[true, true, true, true, true, true, true, true, true, true, true, true, true, false, false] rfl rfl (by kernel_rfl) (by decide) (fun K hK => ?_); refine call_ 90 #[.pointer (some ⟨w4.heap.size, 0, none⟩), .pointer (some ⟨w5.heap.size + 1, 0, none⟩)] (by rfl) rfl ?_ ?_
                  · have he := enters_ Tryz.func90 (by kernel_rfl) rfl #[.pointer (some ⟨w4.heap.size, 0, none⟩), .pointer (some ⟨w5.heap.size + 1, 0, none⟩)] w8; unfold execOp; simp [resolve, Deferred.ofValue, invoke, Act.eval, he]
                  refine (HLF.out _ HDR.out).mono ?_; rintro e w9 ⟨vF, rfl, HF9, hb9⟩; obtain ⟨AF, cF, eF⟩ := Kd.R_slice HF9.out; subst eF; refine ⟨_, rfl, ?_⟩; have HP9 := Aside0.mk (HP8.out.below hb9); have HC10 : Aside0 (OwnI w9 bC (.slice (some aC) C.length cC) C) := ⟨Kd.R_below HC9.out hb9⟩; refine hK.out _ _ ?_; clear hK K; refine norm_ (a' := ?_) ?_ ?_; rotate_left
                  · show Act.put _ (some 123) _ = _
                    simp only [Act.put, List.setIfInBounds_toArray, List.set_cons_zero, List.set_cons_succ, i64_w, i32_w]
                    rfl
                  refine last_ (i := 13) (N := some 124) #[true, true, true, true, true, true, true, true, true, true, true, true, true, true, false] rfl rfl (by kernel_rfl) (by decide) (fun K hK => ?_); refine call_ 94 #[.slice aX (last.length - (i + 1)) (cl - (i + 1)), .slice AF (leftL ys (T ++ [y])).length cF] (by rfl) rfl ?_ ?_
                  · have he := enters_ Tryz.func94 (by kernel_rfl) rfl #[.slice aX (last.length - (i + 1)) (cl - (i + 1)), .slice AF (leftL ys (T ++ [y])).length cF] w9; unfold execOp; simp [resolve, Deferred.ofValue, invoke, Act.eval, he]
                  obtain ⟨_, _, eF2, _, hCF⟩ := Kd.R_reads HF9.out
                  cases eF2
                  refine (HFT.out w9 AF cF _ (HDR.out.trans (hb9.mono HDR.out.size)) hCF (by have h := List.length_filter_le (fun x => !decide (x ∈ T ++ [y])) ys; unfold leftL; have := HYS.out; have := HLL.out; omega) (by have h := left_len (T := T ++ [y]) HYS.out.1; have := HYS.out.2; have := HTL.out; simp only [List.length_append, List.length_singleton] at h; omega)).mono ?_; rintro e w10 ⟨rfl, hb10⟩; refine ⟨_, rfl, ?_⟩; have HP10 := Aside0.mk (HP9.out.below hb10); have HC11 : Aside0 (OwnI w10 bC (.slice (some aC) C.length cC) C) := ⟨Kd.R_below HC10.out hb10⟩; obtain ⟨fv, hfv⟩ : ∃ b, fitB (last.drop (i + 1)) (leftL ys (T ++ [y])) = b := ⟨_, rfl⟩; rw [hfv]; have HFV : Aside0 (okY ys last i T y = fv) := ⟨by unfold okY; rw [HLE2.out, c5, hfv]; rfl⟩; clear hfv; refine hK.out _ _ ?_; clear hK K hCF hb9 hb10; refine norm_ (a' := ?_) ?_ ?_; rotate_left
                  · show Act.put _ (some 124) _ = _
                    simp only [Act.put, List.setIfInBounds_toArray, List.set_cons_zero, List.set_cons_succ, i64_w, i32_w]
                    rfl
                  refine pure_ (i := 14) (N := some 125) (v := .bool fv) (a' := ?_) #[true, true, true, true, true, true, true, true, true, true, true, true, true, true, true] rfl rfl (by kernel_rfl) (fun _ _ _ h => h) (Or.inl ⟨by rfl, ?_⟩) ?_ ?_
                  · intro w'
                    go_simp
                  rotate_left
                  · simp only [Act.put, List.setIfInBounds_toArray, List.set_cons_zero, List.set_cons_succ, i64_w, i32_w]
                    rfl
                  refine done_ (by kernel_rfl) ?_
                  cases fv with
                  | false =>
                    have HNOK := HFV; have z1 : w10.cell? ⟨w5.heap.size + 1, 0, none⟩ = some (.map (some w5.heap.size)) := (blk_cell HP10.out.tb 0).trans rfl; obtain ⟨o2, hdel, hs9⟩ := delete_slot y HP10.out.sl HYL.out.2 0; have HP11 := Aside0.mk (HP10.out.map hs9); have HC12 : Aside0 (OwnI (setMap w10 w5.heap.size o2) bC (.slice (some aC) C.length cC) C) := ⟨HC11.out.keep (setMap_grown _ _ _) (.inr fun e => by have := (OwnI.blk HC11.out e).1; have := HC7.out.2; omega)⟩; clear hs9; go_wp2
                    go_roundg k4
                    case measure => omega
                    case rel => exact ⟨j + 1, (by rw [IntWalk.wrap64_in _ (by have := HCL.out; have := HJ3.out; omega), Int.natCast_add, Int.natCast_one]), ⟨by have := HJ3.out; omega⟩, ⟨any_more HNO.out (by have := HJ3.out; omega) (by rw [HYE.out]; exact HNOK.out)⟩, HC12, HP11⟩
                  | true =>
                    have q1 := eq_true HNM.out.1; have q2 := eq_true HNM.out.2; obtain ⟨hpc, hpf⟩ := Kd.R_celln (0 : Int) HP10.out.p n HNM.out.1 HNM.out.2
                    have HPN : Aside0 (picksF ys last due (List.replicate ages.length (-1)) (i + 1) = (T ++ [y], plan.set n.toNat y)) := ⟨by
                      have h1 : picksF ys last due (List.replicate ages.length (-1)) (i + 1) = stepPick ys last due i (picksF ys last due (List.replicate ages.length (-1)) i) := rfl
                      have h2 : pickF ys last i T = some y := by
                        have h3 := find_at (p := okY ys last i T) (l := C) (k := j) (by have := HJ3.out; omega) HNO.out (by rw [HYE.out]; exact HFV.out); rw [HYE.out] at h3; unfold pickF; rw [HCE.out]; exact h3
                      rw [h1, HPK.out]; unfold stepPick
                      simp only [h2, HNE.out]⟩
                    go_wp2; have HP11 := Aside0.mk (HP10.out.put n y)
                    go_roundg k3
                    case measure => omega
                    case rel => exact ⟨i + 1, T ++ [y], plan.set n.toNat y, (by rw [IntWalk.wrap64_in _ (by have := HLL.out; have := HIL.out; omega), Int.natCast_add, Int.natCast_one]), ⟨by have := HI.out; omega⟩, HPN, ⟨by have := HTL.out; simp; omega⟩, HP11⟩
                · have c5 : decide (y ≤ l) = false := decide_eq_false hyl; have HNOK : Aside0 (okY ys last i T y = false) := ⟨by unfold okY; rw [HLE2.out, c5]; rfl⟩
                  go_quiet (fail)
                  have HDR : Aside0 (Below w7.heap.size w7 (w7.drewN nq)) := ⟨pw_below_drewN (Below.refl _ _) _⟩; generalize w7.drewN nq = w8 at HDR ⊢; have HP8 := Aside0.mk (HP7.out.below HDR.out); have HC9 : Aside0 (OwnI w8 bC (.slice (some aC) C.length cC) C) := ⟨Kd.R_below HC8.out HDR.out⟩; have z1 : w8.cell? ⟨w5.heap.size + 1, 0, none⟩ = some (.map (some w5.heap.size)) := (blk_cell HP8.out.tb 0).trans rfl; obtain ⟨o2, hdel, hs9⟩ := delete_slot y HP8.out.sl HYL.out.2 0; have HP9 := Aside0.mk (HP8.out.map hs9); have HC10 : Aside0 (OwnI (setMap w8 w5.heap.size o2) bC (.slice (some aC) C.length cC) C) := ⟨HC9.out.keep (setMap_grown _ _ _) (.inr fun e => by have := (OwnI.blk HC9.out e).1; have := HC7.out.2; omega)⟩; clear hs9 x0 q3 q4 p3 p4; go_wp2
                  go_roundg k4
                  case measure => omega
                  case rel => exact ⟨j + 1, (by rw [IntWalk.wrap64_in _ (by have := HCL.out; have := HJ3.out; omega), Int.natCast_add, Int.natCast_one]), ⟨by have := HJ3.out; omega⟩, ⟨any_more HNO.out (by have := HJ3.out; omega) (by rw [HYE.out]; exact HNOK.out)⟩, HC10, HP9⟩
    | succ k2 =>
      have c3 : decide ((j : Int) < (ages.length : Int)) = true := decide_eq_true (by have := HJ.out; omega); have p1 : (0 : Int) ≤ (j : Int) := by omega
      have p2 : (j : Int) < (ages.length : Int) := by have := HJ.out; omega
      obtain ⟨ad2, ea2, x0⟩ := Kd.at_int HC2.out j p1 p2
      cases ea2
      rw [Int.toNat_natCast] at x0; have HBw : Aside0 (Below w.heap.size w wr) := ⟨below_then HB2.out HB2.out.size HW.out⟩; replace x0 := (HBw.out.cell (World.block_lt_of_cell? _ _ x0)).trans x0; obtain ⟨a, ha⟩ : ∃ a, rd ages (j : Int) = a := ⟨_, rfl⟩; rw [ha] at x0; have har2 := HAR.out j (by have := HLEN.out; omega); rw [ha] at har2; have HAE := Aside0.mk ha; have HKr := Aside0.mk (blk_below HK2.out HW.out); have a1 : wr.cell? ⟨w.heap.size, 0, none⟩ = some (.slice A0 sp.length c0) := (blk_cell HKr.out 0).trans rfl; have a2 : wr.cell? ⟨w.heap.size, 1, none⟩ = some (.slice A1 st.length c1) := (blk_cell HKr.out 1).trans rfl; have q1 := eq_true p1; have q2 := eq_true p2; clear ha
      go_wp2_with (fail)
      refine (CT.out wr j HBw.out (by have := HLEN.out; omega)).mono ?_; rintro e w3 ⟨rfl, hb3⟩; rw [HLE.out]; have hxr := HLR.out (j : Int); obtain ⟨x, hx⟩ : ∃ x, L (j : Int) = x := ⟨_, rfl⟩; rw [hx] at hxr ⊢; have HXE := Aside0.mk hx; have HB3 := Aside0.mk hb3; have HO3 : Aside0 (OwnI w3 w2.heap.size (.slice (some ⟨w2.heap.size, 0, none⟩) ages.length ages.length) (minus j ages.length) ∧ OwnI w3 w2.heap.size (.slice Ad due.length cd) due ∧ OwnI w3 w2.heap.size (.slice Al last.length cl) last) := ⟨Kd.R_below HO.out.1 hb3, Kd.R_below HO.out.2.1 hb3, Kd.R_below HO.out.2.2 hb3⟩; clear hx hb3 x0 a1 a2
      by_cases hx0 : x < 0
      · have c5 : decide (x < 0) = true := decide_eq_true hx0
        have hnone : PF = ([], 5) := by
          have h1 : dueF L ages untl (j + 1) = none := by
            show (dueF L ages untl j).bind _ = none
            rw [HD.out]
            show (if L (j : Int) < 0 then none else _) = _
            rw [HXE.out, if_pos hx0]
          have := dueF_none h1 k2; rw [HPF.out, show ages.length = j + 1 + k2 by have := HJ.out; omega, this]
        have HN := Aside0.mk hnone; clear hnone; go_wp2
        go_ret2
        rw [HN.out]; exact ⟨_, rfl, Kd.R_nil _ _ _ _ _, below_step HBw.out HB3.out⟩
      · have c5 : decide (x < 0) = false := decide_eq_false hx0; obtain ⟨hpc, hpf⟩ := Kd.R_celln (0 : Int) HO3.out.1 (j : Int) p1 p2; rw [Int.toNat_natCast] at hpc hpf
        go_upto_region 12 with (fail)
        generalize hwS : World.setCell w3 _ _ = wS
        have HOS : Aside0 (OwnI wS w2.heap.size (.slice (some ⟨w2.heap.size, 0, none⟩) ages.length ages.length) (minus (j + 1) ages.length) ∧ OwnI wS w2.heap.size (.slice Ad due.length cd) due ∧ OwnI wS w2.heap.size (.slice Al last.length cl) last) := ⟨by
          have hg : w3.grownBy wS (some w2.heap.size) := by rw [← hwS]; exact grown_setP w3 ⟨w2.heap.size, j, none⟩ _
          refine ⟨?_, HO3.out.2.1.keep hg HA.out.2.1, HO3.out.2.2.keep hg HA.out.2.2⟩; rw [← hwS, ← minus_set (by have := HJ.out; omega)]; have := Kd.R_putn HO3.out.1 (j : Int) (-1)
          rwa [Int.toNat_natCast] at this⟩
        have HBS : Aside0 (Below w2.heap.size w2 wS) := ⟨by rw [← hwS]; exact (below_step HW.out HB3.out).setCell (Nat.le_refl _) _⟩; have HSZ : Aside0 (w2.heap.size ≤ wS.heap.size) := ⟨HBS.out.size⟩; have HAS := HA
        have HDN : Aside0 (dueF L ages untl (j + 1) = some (stepDue x a untl j (due, last))) := ⟨by
          show (dueF L ages untl j).bind _ = _
          rw [HD.out]
          show (if L (j : Int) < 0 then none else some (stepDue (L (j : Int)) (rd ages (j : Int)) untl j (due, last))) = _
          rw [HXE.out, HAE.out, if_neg (by omega)]⟩
        clear hwS hpc hpf HO3 HO HA c5; have hxx : 0 ≤ x ∧ x ≤ 200 := by omega
        have hw1 : wrap64 (x - a) = x - a := IntWalk.wrap64_in _ (by omega); clear hxr hx0
        by_cases hc1 : x < 200
        · by_cases hc2 : x - a < untl
          · have c6 : decide (x < 200) = true := decide_eq_true hc1; have c7 : decide (x - a < untl) = true := decide_eq_true hc2; have HST : Aside0 (stepDue x a untl j (due, last) = (due ++ [(j : Int)], last ++ [x - a])) := ⟨by unfold stepDue; rw [if_pos ⟨hc1, hc2⟩]⟩; clear hc1 hc2
            go_wp2_with (first | ((with_reducible refine gate_builtin (b := .append) (xs := #[.tmp 71, .tmp 73]) rfl ?_); at_builtin; (refine Kd.R_append (Kd.int .i64) (w0 := wS) w2.heap.size rfl (.tmp 71) (.tmp 73) 25 3 (.int .i64 0) 8 rfl Tryz.underlying25 info3 rfl (by decide) (by omega) (.slice Ad due.length cd) due (j : Int) [.int .i64 (j : Int)] (fun _ => True) (fun _ => False) rfl rfl ?aP (fun _ hk => hk.elim) ?aF ?aO ?aB ?aS ?aL ?_); (case aP => exact rfl); (case aB => exact Below.refl _ _); (case aF => exact (fun _ _ => trivial)); (case aO => exact HOS.out.2.1); (case aS => exact HSZ.out); (case aL => have hLN := HLN.out; have := HM.out; have := HJ.out; omega); intro vA wA ho hbA hgA hatA) | ((with_reducible refine gate_builtin (b := .append) (xs := #[.tmp 75, .tmp 79]) rfl ?_); at_builtin; (refine Kd.R_append (Kd.int .i64) (w0 := wA) w2.heap.size rfl (.tmp 75) (.tmp 79) 25 3 (.int .i64 0) 8 rfl Tryz.underlying25 info3 rfl (by decide) (by omega) (.slice Al last.length cl) last (x - a) [.int .i64 (x - a)] (fun _ => True) (fun _ => False) rfl rfl ?bP (fun _ hk => hk.elim) ?bF ?bO ?bB ?bS ?bL ?_); (case bP => exact rfl); (case bB => exact Below.refl _ _); (case bF => exact (fun _ _ => trivial)); (case bO => exact HOS.out.2.2.keep hgA HAS.out.1.symm); (case bS => exact Nat.le_trans HSZ.out hgA.size); (case bL => have hLN := HLN.out; have := HM.out; have := HJ.out; omega); intro vB wB hoB hbB hgB hatB))
            go_roundg k2
            case measure => omega
            case rel => exact ⟨j + 1, due ++ [(j : Int)], last ++ [x - a], (by rw [IntWalk.wrap64_in _ (by have := HM.out; have := HJ.out; omega), Int.natCast_add, Int.natCast_one]), ⟨by have := HJ.out; omega⟩, ⟨by rw [HDN.out, HST.out]⟩, ⟨(HOS.out.1.keep hgA HAS.out.2.1.symm).keep hgB HAS.out.2.2.symm, OwnI.keep ho hgB (HAS.out.1.symm.grown HOS.out.2.2 hatA).symm, hoB⟩, ⟨(HAS.out.1.symm.grown HOS.out.2.2 hatA).symm.grown ho hatB, (HAS.out.2.1.symm.grown HOS.out.1 hatA).symm, (HAS.out.2.2.symm.grown (HOS.out.1.keep hgA HAS.out.2.1.symm) hatB).symm⟩, ⟨(HBS.out.trans hbA).trans hbB⟩⟩
          · have c6 : decide (x < 200) = true := decide_eq_true hc1; have c7 : decide (x - a < untl) = false := decide_eq_false hc2; have HST : Aside0 (stepDue x a untl j (due, last) = (due, last)) := ⟨by unfold stepDue; rw [if_neg (fun h => hc2 h.2)]⟩; clear hc1 hc2; go_wp2
            go_roundg k2
            case measure => omega
            case rel => exact ⟨j + 1, due, last, (by rw [IntWalk.wrap64_in _ (by have := HM.out; have := HJ.out; omega), Int.natCast_add, Int.natCast_one]), ⟨by have := HJ.out; omega⟩, ⟨by rw [HDN.out, HST.out]⟩, HOS, HAS, HBS⟩
        · have c6 : decide (x < 200) = false := decide_eq_false hc1; have HST : Aside0 (stepDue x a untl j (due, last) = (due, last)) := ⟨by unfold stepDue; rw [if_neg (fun h => hc1 h.1)]⟩; clear hc1; go_wp2
          go_roundg k2
          case measure => omega
          case rel => exact ⟨j + 1, due, last, (by rw [IntWalk.wrap64_in _ (by have := HM.out; have := HJ.out; omega), Int.natCast_add, Int.natCast_one]), ⟨by have := HJ.out; omega⟩, ⟨by rw [HDN.out, HST.out]⟩, HOS, HAS, HBS⟩
def channel_Plan.f (sp : List Int) (st : List S66) (ages : List Int) (need untl : Int) : Option (List Int × Int) :=
  if sp.length ≤ 9223372036854775807 ∧ st.length ≤ 9223372036854775807 ∧ ages.length ≤ 9223372036854775807 then some (planF sp st ages need untl) else none
theorem channel_Plan.calls (A0_0 : Option Addr) (c0_0 : Nat) (l0_0 : List Int) (A0_1 : Option Addr) (c0_1 : Nat) (l0_1 : List S66) (A1 : Option Addr) (c1 : Nat) (l1 : List Int) (a2 a3 : Int) (r1 : List Int) (r2 : Int) (w : World) (hr0_0 : Kd.C (Kd.int .i64) w A0_0 l0_0.length l0_0) (hc0_0 : l0_0.length ≤ c0_0) (hr0_1 : Kd.C k66 w A0_1 l0_1.length l0_1) (hc0_1 : l0_1.length ≤ c0_1) (hr1 : Kd.C (Kd.int .i64) w A1 l1.length l1) (hc1 : l1.length ≤ c1) (h : channel_Plan.f l0_0 l0_1 l1 a2 a3 = some (r1, r2)) :
    Calls Tryz.prog 51 #[.agg #[.slice A0_0 l0_0.length c0_0, .slice A0_1 l0_1.length c0_1], .slice A1 l1.length c1, .int .i64 a2, .int .i64 a3] w fun e w' => ∃ v0_ : Value, e = .returned (.tuple #[v0_, .int .i64 r2]) ∧ Kd.R (Kd.int .i64) 3 w' w.heap.size (fun _ => True) v0_ r1 ∧ Below w.heap.size w w' := by
  unfold channel_Plan.f at h
  by_cases hl : l0_0.length ≤ 9223372036854775807 ∧ l0_1.length ≤ 9223372036854775807 ∧ l1.length ≤ 9223372036854775807
  case neg => rw [if_neg hl] at h; cases h
  rw [if_pos hl] at h; have h := Option.some.inj h
  cases hb : planB l0_0 l0_1 l1 a2 a3 with
  | true =>
    have := plan_good l0_0 l0_1 A0_0 A0_1 A1 c0_0 c0_1 c1 l1 a2 a3 w hr0_0 hc0_0 hr0_1 hc0_1 hr1 hc1 hb; rw [h] at this; exact this
  | false =>
    have hpf : planF l0_0 l0_1 l1 a2 a3 = ([], 2) := by unfold planF; rw [if_neg (by rw [hb]; decide)]
    rw [hpf] at h; obtain ⟨rfl, rfl⟩ := Prod.mk.inj h; refine (plan_bad l0_0 l0_1 A0_0 A0_1 A1 c0_0 c0_1 c1 l1 a2 a3 w hr0_0 hc0_0 hr0_1 hc0_1 hr1 hc1 hl.1 hl.2.1 hl.2.2 hb).mono ?_; rintro e w' ⟨rfl, hw⟩; exact ⟨_, rfl, Kd.R_nil _ _ _ _ _, hw⟩
end Go.Proofs.YtdmdahafiiggiabGreatDoor.K
end
section
namespace Go.Proofs.YtdmdahafiiggiabGreatDoor.K
open Go.RowKit Go.Shelf Go.Proofs.YtdmdahafiiggiabGreatDoorW.PrintWords Go.Proofs.YtdmdahafiiggiabGreatDoorW.PrintLast Go.Proofs.YtdmdahafiiggiabGreatDoorW.PrintMore
attribute [local go_sem] Oper.semAt_some
theorem RoundIn.any_n {m m' : Nat} {P : Program} {l : Nat} {f : FuncId} {tmps : Array Value} {assign body : Code} {w : World} {R : Ending → World → Prop} (h : RoundIn Fence.wide m P l f tmps assign body w R) : RoundIn Fence.wide m' P l f tmps assign body w R := ⟨h.1, fun c cs _ => h.2 c cs (room_wide _)⟩
def tails (c : Nat) : Nat → List (List Int)
  | 0 => [[]]
  | m + 1 => (List.range c).flatMap fun (d : Nat) => (tails c m).map fun r => (d : Int) :: r
structure FW (s0 s1 B s c l : Nat) (now : List Int) (W : World) : Prop where
  seg : W.heap[s0]? = some (.cells #[.int .i64 (s : Int)] 3 (0, 0))
  cls : W.heap[s1]? = some (.cells #[.int .i64 (c : Int)] 3 (0, 0))
  yb : W.heap[B]? = some (.cells #[.func (.yield l) #[] #[]] 173 (0, 0))
  row : OwnI W B (.slice (some ⟨B + 1, 0, none⟩) s s) now
  nb : W.heap[B + 2]? = some (.cells #[.slice (some ⟨B + 1, 0, none⟩) s s] 25 (0, 0))
  fb : W.heap[B + 3]? = some (.cells #[.func (.func 130) #[] #[.pointer (some ⟨s0, 0, none⟩), .pointer (some ⟨B, 0, none⟩), .pointer (some ⟨B + 2, 0, none⟩), .pointer (some ⟨s1, 0, none⟩), .pointer (some ⟨B + 3, 0, none⟩)]] 64 (0, 0))
  lt : s0 < B ∧ s1 < B
theorem FW.kb {s0 s1 B s c l : Nat} {now : List Int} {W W1 : World} {M : Nat → Prop} (h : FW s0 s1 B s c l now W) (hk : KB M W W1) (hM : ∀ k, M k → k < B ∧ k ≠ s0 ∧ k ≠ s1) : FW s0 s1 B s c l now W1 where
  seg := hk.at h.seg fun e => (hM _ e).2.1 rfl
  cls := hk.at h.cls fun e => (hM _ e).2.2 rfl
  yb := hk.at h.yb fun e => by have := (hM _ e).1; omega
  row := by
    have hlt := (OwnI.blk h.row (k := B + 1) rfl).2; exact Kd.R_of_own (own_move (Kd.own_of_R h.row) (fun k e => by have e2 : k = B + 1 := (Option.some.inj e).symm; rw [e2]; exact hk.block _ hlt (fun e => by have := (hM _ e).1; omega))) (fun _ _ => trivial)
  nb := hk.at h.nb fun e => by have := (hM _ e).1; omega
  fb := hk.at h.fb fun e => by have := (hM _ e).1; omega
  lt := h.lt
theorem FW.put {s0 s1 B s c l : Nat} {now : List Int} {W : World} (h : FW s0 s1 B s c l now W) (i x : Int) : FW s0 s1 B s c l (now.set i.toNat x) (W.setCell ⟨B + 1, i.toNat, none⟩ (.int .i64 x)) := by
  have hg := grown_setP W ⟨B + 1, i.toNat, none⟩ (.int .i64 x); have hlt := h.lt
  exact {
    seg := blk_grown h.seg hg (by intro e; have e2 : s0 = B + 1 := Option.some.inj e; omega)
    cls := blk_grown h.cls hg (by intro e; have e2 : s1 = B + 1 := Option.some.inj e; omega)
    yb := blk_grown h.yb hg (by intro e; have e2 : B = B + 1 := Option.some.inj e; omega)
    row := Kd.R_putn h.row i x
    nb := blk_grown h.nb hg (by intro e; have e2 : B + 2 = B + 1 := Option.some.inj e; omega)
    fb := blk_grown h.fb hg (by intro e; have e2 : B + 3 = B + 1 := Option.some.inj e; omega)
    lt := h.lt }
theorem tails_map (c m : Nat) (p : List Int) : (tails c (m + 1)).map (p ++ ·) = (List.range c).flatMap fun (d : Nat) => (tails c m).map fun r => p ++ (d : Int) :: r := by
  simp [tails, List.map_flatMap, Function.comp_def]
theorem tails_step (c m k : Nat) (p : List Int) (pre : List (List Int)) : (pre ++ (List.range k).flatMap fun (d : Nat) => (tails c m).map fun r => p ++ (d : Int) :: r) ++ (tails c m).map ((p ++ [(k : Int)]) ++ ·) = pre ++ (List.range (k + 1)).flatMap fun (d : Nat) => (tails c m).map fun r => p ++ (d : Int) :: r := by
  rw [List.range_succ, List.flatMap_append, List.append_assoc]; simp
theorem tails_rest (c m k : Nat) (h : k < c) (p : List Int) (pre : List (List Int)) (xs : List (List Int)) (hx : ∃ rest, xs = pre ++ (tails c (m + 1)).map (p ++ ·) ++ rest) :
    ∃ rest, xs = (pre ++ (List.range k).flatMap fun (d : Nat) => (tails c m).map fun r => p ++ (d : Int) :: r) ++ (tails c m).map ((p ++ [(k : Int)]) ++ ·) ++ rest := by
  obtain ⟨rest, hx⟩ := hx; rw [tails_step, hx, tails_map]; obtain ⟨d, rfl⟩ : ∃ d, c = k + 1 + d := ⟨c - (k + 1), by omega⟩; refine ⟨((List.range' (k + 1) d).flatMap fun (e : Nat) => (tails (k + 1 + d) m).map fun r => p ++ (e : Int) :: r) ++ rest, ?_⟩; rw [show List.range (k + 1 + d) = List.range (k + 1) ++ List.range' (k + 1) d by rw [List.range_eq_range', List.range_eq_range', ← List.range'_append]; simp, List.flatMap_append]; simp only [List.append_assoc]
theorem take_set {l p : List Int} {i : Nat} {x : Int} (h : l.take i = p) (hi : i < l.length) : (l.set i x).take (i + 1) = p ++ [x] := by
  rw [List.take_add_one, List.take_set_of_le (Nat.le_refl i), h]; simp [hi]
set_option maxRecDepth 100000 in
set_option maxHeartbeats 2000000 in
theorem fill_in (s0 s1 B s c l : Nat) (hs : s ≤ 1000) (hcl : c ≤ 1000) (M : Nat → Prop) (hM : ∀ k, M k → k < B ∧ k ≠ s0 ∧ k ≠ s1) (J : List (List Int) → World → Prop) (xs : List (List Int))
    (hJ : ∀ pre A A', J pre A → B ≤ A.heap.size → KB (fun k => B ≤ k ∧ k < B + 4) A A' → J pre A')
    (hY : ∀ (n : Nat) pre x v W1, J pre W1 → B + 4 ≤ W1.heap.size → OwnI W1 (B + 4) v x → (∃ rest, xs = pre ++ x :: rest) →
      YieldAt Fence.wide n Tryz.prog l #[v] W1 fun e W' => e = .returned (.bool true) ∧ J (pre ++ [x]) W' ∧ KB M W1 W') :
    ∀ (m n i : Nat) (p : List Int) (pre : List (List Int)) (now : List Int) (W : World), i + m = s → p.length = i → now.length = s → now.take i = p → FW s0 s1 B s c l now W → B + 4 ≤ W.heap.size → J pre W → (∃ rest, xs = pre ++ (tails c m).map (p ++ ·) ++ rest) →
      CallsIn Fence.wide n Tryz.prog 130 #[.int .i64 (i : Int), .pointer (some ⟨s0, 0, none⟩), .pointer (some ⟨B, 0, none⟩), .pointer (some ⟨B + 2, 0, none⟩), .pointer (some ⟨s1, 0, none⟩), .pointer (some ⟨B + 3, 0, none⟩)] W fun e W' => e = .returned (.bool true) ∧
        (∃ now', now'.length = s ∧ now'.take i = p ∧ FW s0 s1 B s c l now' W') ∧ J (pre ++ (tails c m).map (p ++ ·)) W' ∧ KB (fun k => M k ∨ (B ≤ k ∧ k < B + 4)) W W' := by
  intro m
  induction m with
  | zero =>
    intro n i p pre now W him hp hn ht hF hB hj hrest; obtain rfl : i = s := by omega
    have hnow : now = p := by rw [← ht, List.take_of_length_le (by omega)]
    subst hnow; have y1 : W.cell? ⟨s0, 0, none⟩ = some (.int .i64 (i : Int)) := (blk_cell hF.seg 0).trans rfl; have y2 : W.cell? ⟨B, 0, none⟩ = some (.func (.yield l) #[] #[]) := (blk_cell hF.yb 0).trans rfl; have y3 : W.cell? ⟨B + 2, 0, none⟩ = some (.slice (some ⟨B + 1, 0, none⟩) i i) := (blk_cell hF.nb 0).trans rfl
    have hCl : Aside0 (∀ W', Below W.heap.size W W' → Calls Tryz.prog 92 #[.slice (some ⟨B + 1, 0, none⟩) i i] W' fun e w' => ∃ v, e = .returned v ∧ Aside0 (Kd.R (Kd.int .i64) 3 w' W'.heap.size (fun _ => True) v now) ∧ Below W'.heap.size W' w') := ⟨fun W' hb => by
      have hC := (Kd.R_reads' (Kd.R_below hF.row hb)).2.2; have := clone_any (some ⟨B + 1, 0, none⟩) i now W' hC (by omega)
      rwa [hp] at this⟩
    refine callsIn_of_wp Tryz.func130 rfl trivial ?_ rfl; simp only [Tryz.ntmps130, List.size_toArray, List.length_cons, List.length_nil, Nat.reduceAdd, Nat.reduceSub, Array.replicate_succ, Array.replicate_zero, List.push_toArray, List.append_toArray, List.nil_append, List.cons_append]
    gi_wp2
    have HF := Aside0.mk hF; have HJW : Aside0 (J pre W.drew) := ⟨hJ _ _ _ hj (by omega) (KB.of_below (below_drew1 (Below.refl _ _)))⟩; have HB := Aside0.mk hB; have HR := Aside0.mk hrest; clear hF hj hB hrest; have hmix : Tryz.prog.follows .mixedOrders = true := by kernel_rfl
    gi_region_with_o (first | ((refine ⟨trivial, fun h => absurd h (by decide), ?_⟩); gi_at_call 92; refine (callsIn_wide.2 (hCl.out _ (below_drew1 (Below.refl _ _)))).mono ?_; rintro e w1 ⟨v, rfl, hv, hb⟩; have y2 : w1.cell? ⟨B, 0, none⟩ = some (.func (.yield l) #[] #[]) := (blk_cell (blk_below HF.out.yb (below_step (below_drew1 (Below.refl _ _)) hb)) 0).trans rfl; obtain ⟨fn_, tmps_, assign_, body_, hy_, hR_⟩ := hY n pre now v w1 (hJ _ _ _ HJW.out (Nat.le_trans (by omega) HB.out) (KB.of_below hb)) (Nat.le_trans HB.out hb.size) (OwnI.weak hv.out HB.out) (by obtain ⟨r, e⟩ := HR.out; exact ⟨r, by simpa [tails] using e⟩)) | ((refine ⟨fun h => absurd h (by decide), ?_⟩); refine (RoundIn.any_n hR_).mono ?_; rintro e w2 ⟨rfl, hJ2, hk2⟩))
    all_goals
      gi_wp2
      go_ret; have hkA : KB M W w1 := (KB.of_below (below_drew1 (Below.refl _ _))).trans (KB.of_below hb); exact ⟨rfl, ⟨now, hn, ht, HF.out.kb (hkA.trans hk2) hM⟩, by simpa [tails] using hJ2, (hkA.trans hk2).mono fun k _ h => .inl h⟩
  | succ m ih =>
    intro n i p pre now W him hp hn ht hF hB hj hrest; have y1 : W.cell? ⟨s0, 0, none⟩ = some (.int .i64 (s : Int)) := (blk_cell hF.seg 0).trans rfl; have y4 : W.cell? ⟨s1, 0, none⟩ = some (.int .i64 (c : Int)) := (blk_cell hF.cls 0).trans rfl; have HIS : Aside0 (i < s) := ⟨by omega⟩; have he1 : ((i : Int) == (s : Int)) = false := by rw [beq_eq_false_iff_ne]; omega
    have he2 : (i == s) = false := by rw [beq_eq_false_iff_ne]; omega
    have he3 : ((i : Int) = (s : Int)) = False := eq_false (by omega); have he4 : ¬ (i = s) := by omega
    have H0 := Aside0.mk (And.intro hF (And.intro hB hj)); have HR := Aside0.mk hrest; have HN := Aside0.mk (And.intro hn ht); have HP := Aside0.mk (And.intro hp him); have IH := Aside0.mk ih; clear hF hB hj hrest hn ht hp him ih; refine callsIn_of_wp Tryz.func130 rfl trivial ?_ rfl; simp only [Tryz.ntmps130, List.size_toArray, List.length_cons, List.length_nil, Nat.reduceAdd, Nat.reduceSub, Array.replicate_succ, Array.replicate_zero, List.push_toArray, List.append_toArray, List.nil_append, List.cons_append]
    gi_wp2
    clear y1 y4 he1 he2 he3 he4
    gi_loopw [17] (fun v17 wr => ∃ (k : Nat) (now1 : List Int), v17 = .int .i64 (k : Int) ∧ Aside0 (k ≤ c ∧ now1.length = s ∧ now1.take i = p) ∧ Aside0 (FW s0 s1 B s c l now1 wr) ∧ Aside0 (J (pre ++ (List.range k).flatMap fun (d : Nat) => (tails c m).map fun r => p ++ (d : Int) :: r) wr) ∧ Aside0 (KB (fun k => M k ∨ (B ≤ k ∧ k < B + 4)) W wr))
      (fun v _ => c - (intOf v).toNat)
    case atStart => exact ⟨0, now, rfl, ⟨Nat.zero_le _, HN.out.1, HN.out.2⟩, ⟨H0.out.1⟩, ⟨by simpa using H0.out.2.2⟩, ⟨KB.refl _ _⟩⟩
    case round =>
      obtain ⟨k, now1, rfl, HK, HF, HJ, HKB⟩ := hrel
      by_cases hk : k < c
      · have c3 : decide ((k : Int) < (c : Int)) = true := decide_eq_true (by omega); have z1 : wr.cell? ⟨B + 2, 0, none⟩ = some (.slice (some ⟨B + 1, 0, none⟩) s s) := (blk_cell HF.out.nb 0).trans rfl; have HFP := Aside0.mk (HF.out.put (i : Int) (k : Int)); rw [Int.toNat_natCast] at HFP; have z2 : (wr.setCell ⟨B + 1, i, none⟩ (.int .i64 (k : Int))).cell? ⟨B + 3, 0, none⟩ = some (.func (.func 130) #[] #[.pointer (some ⟨s0, 0, none⟩), .pointer (some ⟨B, 0, none⟩), .pointer (some ⟨B + 2, 0, none⟩), .pointer (some ⟨s1, 0, none⟩), .pointer (some ⟨B + 3, 0, none⟩)]) := (blk_cell HFP.out.fb 0).trans rfl; have p1 : (0 : Int) ≤ (i : Int) := by omega
        have p2 : (i : Int) < (s : Int) := by have := HIS.out; omega
        obtain ⟨hpc, hpf⟩ := Kd.R_celln (0 : Int) HF.out.row (i : Int) p1 p2; rw [Int.toNat_natCast] at hpc hpf; have hKS : KB (fun k => M k ∨ (B ≤ k ∧ k < B + 4)) wr (wr.setCell ⟨B + 1, i, none⟩ (.int .i64 (k : Int))) := KB.setCell _ _ _ (.inr ⟨by show B ≤ B + 1; omega, by show B + 1 < B + 4; omega⟩); have hKO : KB (fun k => B ≤ k ∧ k < B + 4) wr (wr.setCell ⟨B + 1, i, none⟩ (.int .i64 (k : Int))) := KB.setCell _ _ _ ⟨by show B ≤ B + 1; omega, by show B + 1 < B + 4; omega⟩; have hBr : B + 4 ≤ wr.heap.size := Nat.le_trans H0.out.2.1 HKB.out.size; have HIH := Aside0.mk (fun n' => IH.out n' (i + 1) (p ++ [(k : Int)]) _ (now1.set i (k : Int)) _ (by have := HP.out.2; omega) (by simp [HP.out.1]) (by simp [HK.out.2.1]) (take_set HK.out.2.2 (by rw [HK.out.2.1]; exact HIS.out)) HFP.out (Nat.le_trans hBr hKS.size) (hJ _ _ _ HJ.out (by omega) hKO) (tails_rest c m k hk p pre xs HR.out)); have HKS := Aside0.mk hKS; clear hKS hKO hBr; have q1 := eq_true p1; have q2 := eq_true p2; have HW1 : Aside0 (wrap64 ((i : Int) + 1) = ((i + 1 : Nat) : Int)) := ⟨by rw [IntWalk.wrap64_in _ (by have := HIS.out; omega), Int.natCast_add, Int.natCast_one]⟩; have hw1 := HW1.out
        gi_wp2_with ((refine ⟨trivial, fun h => absurd h (by decide), ?_⟩); gi_at_call 130; refine (HIH.out _).mono ?_; rintro e w2 ⟨rfl, ⟨now2, hn2, ht2, hF2⟩, hJ2, hK2⟩)
        clear hw1 q1 q2
        go_roundw
        case rel => exact ⟨k + 1, now2, (by rw [Int.natCast_add, Int.natCast_one]), ⟨by omega, hn2, by
          have h : (now2.take (i + 1)).take i = (p ++ [(k : Int)]).take i := congrArg _ ht2; rw [List.take_take, Nat.min_eq_left (Nat.le_succ i)] at h; rw [h, ← HP.out.1]
          simp⟩, ⟨hF2⟩, ⟨by rw [tails_step] at hJ2; exact hJ2⟩, ⟨HKB.out.trans (HKS.out.trans hK2)⟩⟩
        case measure => simp [intOf]; omega
      · obtain rfl : k = c := by have := HK.out.1; omega
        have c3 : decide ((k : Int) < (k : Int)) = false := decide_eq_false (by omega)
        gi_wp2
        go_ret; exact ⟨rfl, ⟨now1, HK.out.2.1, HK.out.2.2, HF.out⟩, by rw [tails_map]; exact HJ.out, HKB.out⟩
def AtI (B : Nat) (W : World) (x : List Int) (v : Array Value) : Prop := ∃ sl, v = #[sl] ∧ OwnI W B sl x
theorem store_func {P : Program} {w : World} {a : Addr} {m : Mode} (f : Fn) (x y : Array Value) : (store a (.func f x y) m).run P w = stored P w a (.func f x y) m := run_store P w a _ m rfl
attribute [local go_sem] store_func
set_option maxRecDepth 100000 in
set_option maxHeartbeats 2000000 in
theorem choices1_seq (n s0 s1 s c : Nat) (hs : s ≤ 1000) (hcl : c ≤ 1000) (w : World) (hseg : w.heap[s0]? = some (.cells #[.int .i64 (s : Int)] 3 (0, 0))) (hcls : w.heap[s1]? = some (.cells #[.int .i64 (c : Int)] 3 (0, 0))) :
    SeqM Fence.wide n Tryz.prog 129 #[.pointer (some ⟨s0, 0, none⟩), .pointer (some ⟨s1, 0, none⟩)] 4 (fun k => k = s0 ∨ k = s1) AtI (tails c s) w := by
  intro l M J W hkw hC0 hM hJ hY h0; have hC : ∀ k, (k = s0 ∨ k = s1) → W.heap[k]? = w.heap[k]? := fun k h => hkw.block k (hC0 k h) (fun hn => hn h); have HS : Aside0 (W.heap[s0]? = some (.cells #[.int .i64 (s : Int)] 3 (0, 0))) := ⟨(hC s0 (.inl rfl)).trans hseg⟩; have HC : Aside0 (W.heap[s1]? = some (.cells #[.int .i64 (c : Int)] 3 (0, 0))) := ⟨(hC s1 (.inr rfl)).trans hcls⟩; have hmk := print_make (P := Tryz.prog) 25 3 .i64 8 Tryz.underlying25 info3 (by omega) s (by omega); have hmf : ∀ (fn : Fn) (first cap : Array Value) (w : World), (Instr.makeFunc fn first cap).run Tryz.prog w = .ok (.func fn first cap) w := fun _ _ _ _ => rfl; have y1 : W.cell? ⟨s0, 0, none⟩ = some (.int .i64 (s : Int)) := (blk_cell HS.out 0).trans rfl; have y2 : (W.alloc (.cells #[.func (.yield l) #[] #[]] 173)).cell? ⟨s0, 0, none⟩ = some (.int .i64 (s : Int)) := (blk_cell (blk_alloc HS.out _) 0).trans rfl; have z3 : ((((W.alloc (.cells #[.func (.yield l) #[] #[]] 173)).alloc (.cells (madeCells #[Value.int .i64 0] s) 3)).alloc (.cells #[.slice (some ⟨W.heap.size + 1, 0, none⟩) s s] 25)).alloc (.cells #[.nilFunc] 64)).cell? ⟨W.heap.size + 1 + 1 + 1, 0, none⟩ = some .nilFunc := by simp [go_sem]
  have z4 : ((((W.alloc (.cells #[.func (.yield l) #[] #[]] 173)).alloc (.cells (madeCells #[Value.int .i64 0] s) 3)).alloc (.cells #[.slice (some ⟨W.heap.size + 1, 0, none⟩) s s] 25)).alloc (.cells #[.nilFunc] 64)).frozen? ⟨W.heap.size + 1 + 1 + 1, 0, none⟩ = false := by simp [go_sem]
  have z5 : (((((W.alloc (.cells #[.func (.yield l) #[] #[]] 173)).alloc (.cells (madeCells #[Value.int .i64 0] s) 3)).alloc (.cells #[.slice (some ⟨W.heap.size + 1, 0, none⟩) s s] 25)).alloc (.cells #[.nilFunc] 64)).setCell ⟨W.heap.size + 1 + 1 + 1, 0, none⟩ (.func (.func 130) #[] #[.pointer (some ⟨s0, 0, none⟩), .pointer (some ⟨W.heap.size, 0, none⟩), .pointer (some ⟨W.heap.size + 1 + 1, 0, none⟩), .pointer (some ⟨s1, 0, none⟩), .pointer (some ⟨W.heap.size + 1 + 1 + 1, 0, none⟩)])).cell? ⟨W.heap.size + 1 + 1 + 1, 0, none⟩ = some (.func (.func 130) #[] #[.pointer (some ⟨s0, 0, none⟩), .pointer (some ⟨W.heap.size, 0, none⟩), .pointer (some ⟨W.heap.size + 1 + 1, 0, none⟩), .pointer (some ⟨s1, 0, none⟩), .pointer (some ⟨W.heap.size + 1 + 1 + 1, 0, none⟩)]) := World.cell?_setCell_same' _ _ _ (by rw [z3]; rfl); have H0 := Aside0.mk h0; clear h0; refine callsIn_of_wp Tryz.func129 rfl trivial ?_ rfl; simp only [Tryz.ntmps129, List.size_toArray, List.length_cons, List.length_nil, Nat.reduceAdd, Nat.reduceSub, Array.replicate_succ, Array.replicate_zero, List.push_toArray, List.append_toArray, List.nil_append, List.cons_append]
  gi_wp2
  clear z3 z4 z5 y1 y2 hmk; refine ⟨trivial, fun h => absurd h (by decide), ?_⟩; have e2 : (W.alloc (.cells #[.func (.yield l) #[] #[]] 173)).heap.size = W.heap.size + 1 := World.size_alloc _ _; generalize hW5 : World.alloc (World.alloc (World.alloc (World.alloc W _) _) _) _ = W5
  have HFW : FW s0 s1 W.heap.size s c l (List.replicate s 0) W5 := by
    rw [← hW5]; have hlt0 := blk_lt HS.out; have hlt1 := blk_lt HC.out; have hr := own_made (W.alloc (.cells #[.func (.yield l) #[] #[]] 173)) W.heap.size 3 .i64 s (by simp) (by omega); rw [World.size_alloc] at hr
    exact {
      seg := blk_alloc (blk_alloc (blk_alloc (blk_alloc HS.out _) _) _) _
      cls := blk_alloc (blk_alloc (blk_alloc (blk_alloc HC.out _) _) _) _
      yb := blk_alloc (blk_alloc (blk_alloc (blk_new _ _) _) _) _
      row := Kd.R_of_own (by rw [List.length_replicate]; exact own_alloc (own_alloc hr _) _) (fun _ _ => trivial)
      nb := by
        have := blk_new ((W.alloc (.cells #[.func (.yield l) #[] #[]] 173)).alloc (.cells (madeCells #[Value.int .i64 0] s) 3)) (.cells #[.slice (some ⟨W.heap.size + 1, 0, none⟩) s s] 25); rw [World.size_alloc, World.size_alloc] at this; exact blk_alloc this _
      fb := by
        have h := fun o => blk_new (((W.alloc (.cells #[.func (.yield l) #[] #[]] 173)).alloc (.cells (madeCells #[Value.int .i64 0] s) 3)).alloc (.cells #[.slice (some ⟨W.heap.size + 1, 0, none⟩) s s] 25)) o; simp only [World.size_alloc] at h; exact h _
      lt := ⟨hlt0, hlt1⟩ }
  have hk5 : ∀ N : Nat → Prop, KB N W W5 := fun N => by rw [← hW5]; exact ((KB.alloc _ _).trans (KB.alloc _ _)).trans ((KB.alloc _ _).trans (KB.alloc _ _))
  have hs5 : W5.heap.size = W.heap.size + 4 := by rw [← hW5]; simp
  have hMM : ∀ k, M k → k < W.heap.size ∧ k ≠ s0 ∧ k ≠ s1 := fun k hk => ⟨(hM k hk).1, fun e => (hM k hk).2 (.inl e), fun e => (hM k hk).2 (.inr e)⟩
  refine (fill_in s0 s1 W.heap.size s c l hs hcl M hMM J (tails c s) hJ (fun n' pre x v W1 hj hsz ho hr => by
    obtain ⟨fn, tmps, assign, body, hy, hR⟩ := hY pre x #[v] W1 hj hsz ⟨v, rfl, ho⟩ hr
    exact ⟨fn, tmps, assign, body, hy, RoundIn.any_n hR⟩) s (n - 1) 0 [] [] (List.replicate s 0) W5 (by omega) rfl (by simp) (by simp) HFW (by omega) (hJ _ _ _ H0.out (Nat.le_refl _) (hk5 _)) ⟨[], by simp⟩).mono ?_
  rintro e w2 ⟨rfl, _, hJ2, hk2⟩
  gi_wp2
  go_end0
  exact ⟨⟨_, rfl⟩, by simpa using hJ2, ((hk5 _).trans hk2).mono fun k hk h => by
    rcases h with h | h
    · exact h
    · omega⟩
end Go.Proofs.YtdmdahafiiggiabGreatDoor.K
end
section
namespace Go.Proofs.YtdmdahafiiggiabGreatDoor.K
open Go.RowKit Go.Proofs.YtdmdahafiiggiabGreatDoorW.PrintWords Go.Proofs.YtdmdahafiiggiabGreatDoorW.PrintLast Go.Proofs.YtdmdahafiiggiabGreatDoorW.PrintMore
attribute [local go_sem] max2_int min2_int max_two min_two max_three min_three max_four min_four
def channel_isHeight.f (a0_0 : Int) (a0_1 : Int) : Option (Bool) := (channel_isSpan.f a0_0 a0_1 0 1000).bind fun t107 => (some t107)
set_option maxHeartbeats 8000000 in
set_option maxRecDepth 100000 in
theorem channel_isHeight.calls (a0_0 : Int) (a0_1 : Int) (r : Bool) (w : World) (h : channel_isHeight.f a0_0 a0_1 = some r) :
  Calls Tryz.prog 100 #[.agg #[.int .i64 a0_0, .int .i64 a0_1]] w fun e w' => e = .returned (.bool r) ∧ Below w.heap.size w w' := by
 have hu23 := Tryz.underlying23; have HB := Aside0.mk (Below.refl w.heap.size w); have H : ((channel_isSpan.f a0_0 a0_1 0 1000).bind fun t107 => (some t107)) = some r := h; clear h; replace H := Option.bind_eq_some_iff.mp H; obtain ⟨t107, A20, H⟩ := H; replace H : (some t107) = some r := H; have A2 := Aside0.mk A20; clear A20; obtain rfl := Option.some.inj H
 go_enter Tryz.func100, Tryz.ntmps100
 go_wp2_with (first | ((with_reducible refine gate_dst (N := 1) rfl ?_); refine bxe 1 #[.int .i64 a0_0, .int .i64 a0_1] 23 ?_; intro gb106 hg w3 hbox hb; have n0_ := Aside0.mk (below_step uB hb); have n1_ := Aside0.mk (hbox); have n2_ := gw hg; have n3_ := gw hg; clear HB; have HB := n0_; have BK106 := n1_; have GW106 := n2_; have GE106 := n3_; clear n0_ n1_ n2_ n3_; clear hb hbox hg; obtain ⟨hcz4_0, hcz4_1⟩ := cz2 BK106.out; obtain ⟨hfz4_0, hfz4_1⟩ := fz2 BK106.out) | ((with_reducible refine gate_callee (f := 96) rfl ?_); refine goesL_ (some 4) rfl rfl Tryz.func96 (by kernel_rfl) rfl #[.agg #[.int .i64 a0_0, .int .i64 a0_1], .int .i64 0, .int .i64 1000] rfl uM ?_; (with_reducible refine (channel_isSpan.calls a0_0 a0_1 0 1000 t107 _ A2.out).mono ?_); rintro e w5 ⟨rfl, hb⟩; refine ⟨_, rfl, ?_⟩; replace BK106 := Aside0.mk (blk_below (uK BK106.out) hb); replace HB := Aside0.mk (below_step uB hb); (try clear hb); (try clear hb2); (try clear hk); (try clear hi)))
 go_ret; exact ⟨uE, uB⟩
end Go.Proofs.YtdmdahafiiggiabGreatDoor.K
end
