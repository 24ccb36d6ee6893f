/- The walks of the functions that the laws of this seat call, and what they compute; joined out of smaller texts, part 2. -/
import Derived.Test.YtdmdahafiiggiaaGreatDoorProg
import Derived.Below
import Derived.Deep.Draws
import Derived.Deep.AppendLies
import Derived.Maps.AppendAt
import Derived.OwnWalk
import Derived.Laws.BytesArg
import Derived.Laws.MakeOwn
import Derived.Laws.OwnMore
import Derived.Deep.OwnRows
import Derived.Tactics
import Derived.Lib.ConvBytes
import Derived.Laws.Slices
import Derived.WalkKit
import Derived.KernelRfl
import Derived.RowKit3
import Derived.Deep.LoopGhost
import Derived.Deep.QuietTactic
import Derived.BigQuiet
import Derived.WideLaws
import Derived.Deep.DeepCutAuto
import Derived.Deep.CutBlock
import Derived.Deep.RegionHeld3
import Derived.Laws.Rows
import Derived.Lib.AppendStr
import Derived.ArgAppend
import Derived.Laws.IdiomCopy
import Derived.OrdersHeld
import Derived.Laws.BitsLemmas
import Derived.RowKit
import Derived.Shelf.Abstract
import Derived.RangeFuncNested
import Derived.RangeFuncBound
import Derived.RangeFuncCalls
import Derived.RangeFuncLeaves
import Derived.RangeFuncWrites
import Derived.Shelf.RegionOpen
import Derived.OwnWalkIn
import Derived.TacticsInMore
import Derived.LoopNIn
import Derived.LoopIn
import Derived.Lib.SliceRun
import Derived.WalkSpells
import Derived.Outline
import Derived.Shelf.SortM.Plain
import Derived.Shelf.SortM.SortNone
import Derived.Ground.SlgmProg
import Derived.Lib.SlKeysI
import Derived.Sort.OwnSorted
import Derived.Test.YtdmdahafiiggiaaGreatDoorK1
set_option linter.unusedVariables false
set_option linter.unusedSimpArgs false
namespace Go.Proofs.YtdmdahafiiggiaaGreatDoor.K
theorem uD {p : Prop} [Decidable p] (h : decide p = true := by first | (with_reducible assumption) | assumption) : p := of_decide_eq_true h
end Go.Proofs.YtdmdahafiiggiaaGreatDoor.K
section
namespace Go.Proofs.YtdmdahafiiggiaaGreatDoor.K
open Go.RowKit Go.Proofs.YtdmdahafiiggiaaGreatDoorW.PrintWords Go.Proofs.YtdmdahafiiggiaaGreatDoorW.PrintLast Go.Proofs.YtdmdahafiiggiaaGreatDoorW.PrintMore
attribute [local go_sem] max2_int min2_int max_two min_two max_three min_three max_four min_four
def errW : Option Int → Value
  | none => .nilIface
  | some c => .iface 0 (.int .i64 c)
theorem errW_none : errW none = .nilIface := rfl
theorem errW_some (c : Int) : errW (some c) = .iface 0 (.int .i64 c) := rfl
theorem info3 : (Tryz.prog.info? 3).map (fun i => (i.zero, i.size, i.bytes)) = some (some (.int .i64 0), 1, 8) := by kernel_rfl
theorem info30 : (Tryz.prog.info? 30).map (fun i => (i.zero, i.size, i.bytes)) = some (some (.agg #[(.int .i64 0), (.int .i64 0)]), 2, 16) := by kernel_rfl
theorem info32 : (Tryz.prog.info? 32).map (fun i => (i.zero, i.size, i.bytes)) = some (some (.agg #[(.int .i64 0), (.int .i64 0), (.int .i64 0), (.int .i64 0), (.int .i64 0)]), 5, 40) := by kernel_rfl
structure S30 where
  f0 : Int
  f1 : Int
def z30 : S30 := ⟨(0 : Int), (0 : Int)⟩
def k30 : Kd S30 := Kd.iso (Kd.pair (Kd.int .i64) (Kd.int .i64)) (fun x : S30 => (x.f0, x.f1))
theorem k30_open {w : World} {x : S30} {cs : List Value} (h : k30.K w x cs) : cs = [.int .i64 x.f0, .int .i64 x.f1] := by
  obtain ⟨_, _, rfl, rfl, rfl⟩ := h; exact rfl
theorem k30_openM {w : World} {base : Nat} {ok : Nat → Prop} {x : S30} {cs : List Value} (h : k30.M w base ok x cs) : cs = [.int .i64 x.f0, .int .i64 x.f1] := by
  obtain ⟨_, _, rfl, rfl, rfl⟩ := h; exact rfl
theorem k30_mk (w : World) (x : S30)  : k30.K w x [.int .i64 x.f0, .int .i64 x.f1] := ⟨[.int .i64 x.f0], [.int .i64 x.f1], rfl, rfl, rfl⟩
theorem k30_mkM (w : World) (base : Nat) (ok : Nat → Prop) (x : S30)  : k30.M w base ok x [.int .i64 x.f0, .int .i64 x.f1] := ⟨[.int .i64 x.f0], [.int .i64 x.f1], rfl, rfl, rfl⟩
def rd_T30 (xs : List S30) (i : Int) : S30 := xs.getD i.toNat z30
theorem at_T30 {w : World} {A : Option Addr} {n : Nat} {xs : List S30} (h : Kd.C k30 w A n xs) (i : Int) (h0 : 0 ≤ i) (h1 : i < n) : ∃ ad , A = some ad ∧ w.cell? (ad.add (i.toNat * 2)) = some (.int .i64 (rd_T30 xs i).f0) ∧ w.cell? ⟨(ad.add (i.toNat * 2)).block, (ad.add (i.toNat * 2)).off + 1, none⟩ = some (.int .i64 (rd_T30 xs i).f1) := by
  obtain ⟨ad, c, e, _, hK, hc0⟩ := Kd.C_get h z30 i h0 h1; have hc : ∀ j u, c[j]? = some u → w.cell? (ad.add (i.toNat * 2 + j)) = some u := hc0; obtain rfl := k30_open hK; exact ⟨ad, e, hc 0 _ rfl, by rw [← add_field _ _ 1 (by omega)]; exact hc 1 _ rfl⟩
structure S32 where
  f0 : Int
  f1 : Int
  f2 : Int
  f3 : S30
def z32 : S32 := ⟨(0 : Int), (0 : Int), (0 : Int), z30⟩
def k32 : Kd S32 := Kd.iso (Kd.pair (Kd.int .i64) (Kd.pair (Kd.int .i64) (Kd.pair (Kd.int .i64) k30))) (fun x : S32 => (x.f0, x.f1, x.f2, x.f3))
theorem k32_open {w : World} {x : S32} {cs : List Value} (h : k32.K w x cs) : cs = [.int .i64 x.f0, .int .i64 x.f1, .int .i64 x.f2, .int .i64 x.f3.f0, .int .i64 x.f3.f1] := by
  obtain ⟨_, _, rfl, rfl, ⟨_, _, rfl, rfl, ⟨_, _, rfl, rfl, s3⟩⟩⟩ := h; obtain rfl := k30_open s3; exact rfl
theorem k32_openM {w : World} {base : Nat} {ok : Nat → Prop} {x : S32} {cs : List Value} (h : k32.M w base ok x cs) : cs = [.int .i64 x.f0, .int .i64 x.f1, .int .i64 x.f2, .int .i64 x.f3.f0, .int .i64 x.f3.f1] := by
  obtain ⟨_, _, rfl, rfl, ⟨_, _, rfl, rfl, ⟨_, _, rfl, rfl, s3⟩⟩⟩ := h; obtain rfl := k30_openM s3; exact rfl
theorem k32_mk (w : World) (x : S32)  : k32.K w x [.int .i64 x.f0, .int .i64 x.f1, .int .i64 x.f2, .int .i64 x.f3.f0, .int .i64 x.f3.f1] := ⟨[.int .i64 x.f0], [.int .i64 x.f1, .int .i64 x.f2, .int .i64 x.f3.f0, .int .i64 x.f3.f1], rfl, rfl, ⟨[.int .i64 x.f1], [.int .i64 x.f2, .int .i64 x.f3.f0, .int .i64 x.f3.f1], rfl, rfl, ⟨[.int .i64 x.f2], [.int .i64 x.f3.f0, .int .i64 x.f3.f1], rfl, rfl, (k30_mk w x.f3 )⟩⟩⟩
theorem k32_mkM (w : World) (base : Nat) (ok : Nat → Prop) (x : S32)  : k32.M w base ok x [.int .i64 x.f0, .int .i64 x.f1, .int .i64 x.f2, .int .i64 x.f3.f0, .int .i64 x.f3.f1] := ⟨[.int .i64 x.f0], [.int .i64 x.f1, .int .i64 x.f2, .int .i64 x.f3.f0, .int .i64 x.f3.f1], rfl, rfl, ⟨[.int .i64 x.f1], [.int .i64 x.f2, .int .i64 x.f3.f0, .int .i64 x.f3.f1], rfl, rfl, ⟨[.int .i64 x.f2], [.int .i64 x.f3.f0, .int .i64 x.f3.f1], rfl, rfl, (k30_mkM w base ok x.f3 )⟩⟩⟩
def rd_T32 (xs : List S32) (i : Int) : S32 := xs.getD i.toNat z32
theorem at_T32 {w : World} {A : Option Addr} {n : Nat} {xs : List S32} (h : Kd.C k32 w A n xs) (i : Int) (h0 : 0 ≤ i) (h1 : i < n) : ∃ ad , A = some ad ∧ w.cell? (ad.add (i.toNat * 5)) = some (.int .i64 (rd_T32 xs i).f0) ∧ w.cell? ⟨(ad.add (i.toNat * 5)).block, (ad.add (i.toNat * 5)).off + 1, none⟩ = some (.int .i64 (rd_T32 xs i).f1) ∧ w.cell? ⟨(ad.add (i.toNat * 5)).block, (ad.add (i.toNat * 5)).off + 2, none⟩ = some (.int .i64 (rd_T32 xs i).f2) ∧ w.cell? ⟨(ad.add (i.toNat * 5)).block, (ad.add (i.toNat * 5)).off + 3, none⟩ = some (.int .i64 (rd_T32 xs i).f3.f0) ∧ w.cell? ⟨(ad.add (i.toNat * 5)).block, (ad.add (i.toNat * 5)).off + 4, none⟩ = some (.int .i64 (rd_T32 xs i).f3.f1) := by
  obtain ⟨ad, c, e, _, hK, hc0⟩ := Kd.C_get h z32 i h0 h1; have hc : ∀ j u, c[j]? = some u → w.cell? (ad.add (i.toNat * 5 + j)) = some u := hc0; obtain rfl := k32_open hK; exact ⟨ad, e, hc 0 _ rfl, by rw [← add_field _ _ 1 (by omega)]; exact hc 1 _ rfl, by rw [← add_field _ _ 2 (by omega)]; exact hc 2 _ rfl, by rw [← add_field _ _ 3 (by omega)]; exact hc 3 _ rfl, by rw [← add_field _ _ 4 (by omega)]; exact hc 4 _ rfl⟩
structure S68 where
  f0 : Int
  f1 : S30
def z68 : S68 := ⟨(0 : Int), z30⟩
def k68 : Kd S68 := Kd.iso (Kd.pair (Kd.int .i64) k30) (fun x : S68 => (x.f0, x.f1))
theorem k68_open {w : World} {x : S68} {cs : List Value} (h : k68.K w x cs) : cs = [.int .i64 x.f0, .int .i64 x.f1.f0, .int .i64 x.f1.f1] := by
  obtain ⟨_, _, rfl, rfl, s1⟩ := h; obtain rfl := k30_open s1; exact rfl
theorem k68_mk (w : World) (x : S68)  : k68.K w x [.int .i64 x.f0, .int .i64 x.f1.f0, .int .i64 x.f1.f1] := ⟨[.int .i64 x.f0], [.int .i64 x.f1.f0, .int .i64 x.f1.f1], rfl, rfl, (k30_mk w x.f1 )⟩
def rd_T68 (xs : List S68) (i : Int) : S68 := xs.getD i.toNat z68
theorem at_T68 {w : World} {A : Option Addr} {n : Nat} {xs : List S68} (h : Kd.C k68 w A n xs) (i : Int) (h0 : 0 ≤ i) (h1 : i < n) : ∃ ad , A = some ad ∧ w.cell? (ad.add (i.toNat * 3)) = some (.int .i64 (rd_T68 xs i).f0) ∧ w.cell? ⟨(ad.add (i.toNat * 3)).block, (ad.add (i.toNat * 3)).off + 1, none⟩ = some (.int .i64 (rd_T68 xs i).f1.f0) ∧ w.cell? ⟨(ad.add (i.toNat * 3)).block, (ad.add (i.toNat * 3)).off + 2, none⟩ = some (.int .i64 (rd_T68 xs i).f1.f1) := by
  obtain ⟨ad, c, e, _, hK, hc0⟩ := Kd.C_get h z68 i h0 h1; have hc : ∀ j u, c[j]? = some u → w.cell? (ad.add (i.toNat * 3 + j)) = some u := hc0; obtain rfl := k68_open hK; exact ⟨ad, e, hc 0 _ rfl, by rw [← add_field _ _ 1 (by omega)]; exact hc 1 _ rfl, by rw [← add_field _ _ 2 (by omega)]; exact hc 2 _ rfl⟩
structure S123 where
  f0 : Int
  f1 : Int
  f2 : Int
def z123 : S123 := ⟨(0 : Int), (0 : Int), (0 : Int)⟩
def k123 : Kd S123 := Kd.iso (Kd.pair (Kd.int .i64) (Kd.pair (Kd.int .i64) (Kd.int .i64))) (fun x : S123 => (x.f0, x.f1, x.f2))
theorem k123_open {w : World} {x : S123} {cs : List Value} (h : k123.K w x cs) : cs = [.int .i64 x.f0, .int .i64 x.f1, .int .i64 x.f2] := by
  obtain ⟨_, _, rfl, rfl, ⟨_, _, rfl, rfl, rfl⟩⟩ := h; exact rfl
theorem k123_mkM (w : World) (base : Nat) (ok : Nat → Prop) (x : S123)  : k123.M w base ok x [.int .i64 x.f0, .int .i64 x.f1, .int .i64 x.f2] := ⟨[.int .i64 x.f0], [.int .i64 x.f1, .int .i64 x.f2], rfl, rfl, ⟨[.int .i64 x.f1], [.int .i64 x.f2], rfl, rfl, rfl⟩⟩
def rd_T123 (xs : List S123) (i : Int) : S123 := xs.getD i.toNat z123
theorem at_T123 {w : World} {A : Option Addr} {n : Nat} {xs : List S123} (h : Kd.C k123 w A n xs) (i : Int) (h0 : 0 ≤ i) (h1 : i < n) : ∃ ad , A = some ad ∧ w.cell? (ad.add (i.toNat * 3)) = some (.int .i64 (rd_T123 xs i).f0) ∧ w.cell? ⟨(ad.add (i.toNat * 3)).block, (ad.add (i.toNat * 3)).off + 1, none⟩ = some (.int .i64 (rd_T123 xs i).f1) ∧ w.cell? ⟨(ad.add (i.toNat * 3)).block, (ad.add (i.toNat * 3)).off + 2, none⟩ = some (.int .i64 (rd_T123 xs i).f2) := by
  obtain ⟨ad, c, e, _, hK, hc0⟩ := Kd.C_get h z123 i h0 h1; have hc : ∀ j u, c[j]? = some u → w.cell? (ad.add (i.toNat * 3 + j)) = some u := hc0; obtain rfl := k123_open hK; exact ⟨ad, e, hc 0 _ rfl, by rw [← add_field _ _ 1 (by omega)]; exact hc 1 _ rfl, by rw [← add_field _ _ 2 (by omega)]; exact hc 2 _ rfl⟩
theorem fld30_0 (v0 v1 : Value) (W : World) : (Instr.field 30 (.agg #[v0, v1]) 0).run Tryz.prog W = .ok v0 W := by kernel_rfl
end Go.Proofs.YtdmdahafiiggiaaGreatDoor.K
end
section
namespace Go.Proofs.YtdmdahafiiggiaaGreatDoor.K
open Go.RowKit Go.Proofs.YtdmdahafiiggiaaGreatDoorW.PrintWords Go.Proofs.YtdmdahafiiggiaaGreatDoorW.PrintLast Go.Proofs.YtdmdahafiiggiaaGreatDoorW.PrintMore
theorem uB {p : Prop} (h : p := by repeat (first | (with_reducible first | exact HB.out | apply below_alloc | apply pw_below_drewN | apply below_drew1 | refine below_set ?_ (Aside0.out (by assumption))) | exact HB.out)) : p := h
theorem uK {p q : Prop} (h : p) (k : p → q := by intro h_; (with_reducible repeat (first | refine blk_drewN ?_ _ | refine blk_drew ?_ | refine blk_alloc ?_ _)); exact h_) : q := k h
theorem uR {p q : Prop} (h : p) (k : p → q := by intro h_; (with_reducible repeat (first | apply Kd.R_alloc | apply Kd.R_drewN | apply Kd.R_drew)); exact h_) : q := k h
theorem u0 {p : Prop} (h : p := by first | rfl | (simp; done) | (simp [*]; done)) : p := h
theorem uE {p : Prop} (h : p := by first | rfl | (simp [errW_none, errW_some] <;> rfl) | (simp [*, errW_none, errW_some] <;> rfl)) : p := h
theorem u1 {p : Prop} (h : p := by first | omega | exact Nat.le_refl _) : p := h
theorem uN {p : Prop} (h : p := by first | exact Kd.R_nil _ _ _ _ _ | exact Kd.N_nil _ _ _ _ _ | exact Kd.V_nil _ _ _ _ _ | exact Kd.Q_nil _ _ _ _ _ | exact Kd.S_nil _ _ _ _ _) : p := h
theorem uM {p : Prop} (h : p := by (try simp only [List.map_toArray, List.map_cons, List.map_nil]); first | done | rfl | (simp only [List.length_drop, List.length_take]; rfl)) : p := h
theorem bl1 {w : World} {a : Addr} {v : Value} {q : Prop} (h : w.cell? a = some v) (k : a.block < w.heap.size → q := by intro this; first | rwa [add_block] at this | exact this) : q := k (World.block_lt_of_cell? w _ h)
theorem fx {p q : Prop} (h : p) (k : p → q := by intro h_; first | exact h_ | (rw [add_block]; exact h_) | (show (Addr.add _ _).block ≠ _; rw [add_block]; exact h_) | (dsimp only; exact h_)) : q := k h
theorem ifs {α : Type} {c : Prop} [Decidable c] {a : Option α} {r : α} (h : (if c then a else none) = some r) : c ∧ a = some r := by
  by_cases hc : c
  · rw [if_pos hc] at h; exact ⟨hc, h⟩
  · rw [if_neg hc] at h
    cases h
theorem hcell {w W : World} {a : Addr} {v : Value} (hb : Below w.heap.size w W) (h : w.cell? a = some v) : W.cell? a = some v := (hb.cell (World.block_lt_of_cell? w _ h)).trans h
def bl (n m : Nat) : Array Bool := ((List.range n).map fun i => m.testBit i).toArray
section
variable {P : Program} {ops : Array Oper} {Q : Exit → Act → World → Prop} {md : Region.Mode} {S : World → Prop} {ds : List Nat} {oi : Oper} {v : Value} {fuel : Nat} {l : Array Bool} {a a' : Act} {w : World} {rest : List Oper} {o : Oper} {W : World} {Kc : Act → World → Prop}
theorem nm (h : wpAnyLast P md ops Q S ds fuel l a' w) (ha : a = a' := by first | (show Act.put _ (some _) _ = _; simp only [Act.put, List.setIfInBounds_toArray, List.set_cons_zero, List.set_cons_succ, i64_w, i32_w]; rfl) | (simp only [putAll, Act.put, List.setIfInBounds_toArray, List.set_cons_zero, List.set_cons_succ]; rfl)) : wpAnyLast P md ops Q S ds fuel l a w := norm_ ha h
theorem pu (i N n m : Nat) (h : wpAnyLast P md ops Q S ds fuel (bl n m) a' w) (hi : ops[i]? = some oi := by exact rfl) (hN : oi.dst = some N := by exact rfl) (hc : anyB md ops l (bl n m) i = true := by first | exact any_of HT_.out (by kernel_rfl) | kernel_rfl)
    (hQ : ∀ c a w, Q (.panic c) (a.put oi.dst v) w → Q (.panic c) a w := by exact fun _ _ _ h => h) (hy : Yields P ops oi v a := by (refine Or.inl ⟨by rfl, ?_⟩; intro w'; go_simp; with_reducible rfl))
    (ha : a.put (some N) v = a' := by (simp only [Act.put, List.setIfInBounds_toArray, List.set_cons_zero, List.set_cons_succ, i64_w, i32_w]; rfl)) : wpAnyLast P md ops Q S ds (fuel + 1) l a w := pure_ (bl n m) hi hN hc hQ hy ha h
theorem tk2 (i N n m : Nat) (hS : S w) (h : wpAnyLast P md ops Q S ds fuel (bl n m) a' w) (hi : ops[i]? = some oi := by exact rfl) (hN : oi.dst = some N := by exact rfl) (hc : takeB md ops ds l (bl n m) i = true := by first | exact take_ofW HT_.out HW_.out (by kernel_rfl) | exact take_of HT_.out (by kernel_rfl) | kernel_rfl)
    (hQ : ∀ c a w, Q (.panic c) (a.put oi.dst v) w → Q (.panic c) a w := by exact fun _ _ _ h => h) (hy : YieldsIf P ops S oi v a := by (refine Or.inl ⟨by rfl, ?_⟩; rintro w' ⟨s0, s1⟩; go_simp; with_reducible rfl))
    (ha : a.put (some N) v = a' := by (simp only [Act.put, List.setIfInBounds_toArray, List.set_cons_zero, List.set_cons_succ, i64_w, i32_w]; rfl)) : wpAnyLast P md ops Q S ds (fuel + 1) l a w := take_ (bl n m) hi hN hc hQ hy hS ha h
theorem tk3 (i N n m : Nat) (hS : S w) (h : wpAnyLast P md ops Q S ds fuel (bl n m) a' w) (hi : ops[i]? = some oi := by exact rfl) (hN : oi.dst = some N := by exact rfl) (hc : takeB md ops ds l (bl n m) i = true := by first | exact take_ofW HT_.out HW_.out (by kernel_rfl) | exact take_of HT_.out (by kernel_rfl) | kernel_rfl)
    (hQ : ∀ c a w, Q (.panic c) (a.put oi.dst v) w → Q (.panic c) a w := by exact fun _ _ _ h => h) (hy : YieldsIf P ops S oi v a := by (refine Or.inl ⟨by rfl, ?_⟩; rintro w' ⟨s0, s1, s2⟩; go_simp; with_reducible rfl))
    (ha : a.put (some N) v = a' := by (simp only [Act.put, List.setIfInBounds_toArray, List.set_cons_zero, List.set_cons_succ, i64_w, i32_w]; rfl)) : wpAnyLast P md ops Q S ds (fuel + 1) l a w := take_ (bl n m) hi hN hc hQ hy hS ha h
theorem tk7 (i N n m : Nat) (hS : S w) (h : wpAnyLast P md ops Q S ds fuel (bl n m) a' w) (hi : ops[i]? = some oi := by exact rfl) (hN : oi.dst = some N := by exact rfl) (hc : takeB md ops ds l (bl n m) i = true := by first | exact take_ofW HT_.out HW_.out (by kernel_rfl) | exact take_of HT_.out (by kernel_rfl) | kernel_rfl)
    (hQ : ∀ c a w, Q (.panic c) (a.put oi.dst v) w → Q (.panic c) a w := by exact fun _ _ _ h => h) (hy : YieldsIf P ops S oi v a := by (refine Or.inl ⟨by rfl, ?_⟩; rintro w' ⟨s0, s1, s2, s3, s4, s5, s6⟩; go_simp; with_reducible rfl))
    (ha : a.put (some N) v = a' := by (simp only [Act.put, List.setIfInBounds_toArray, List.set_cons_zero, List.set_cons_succ, i64_w, i32_w]; rfl)) : wpAnyLast P md ops Q S ds (fuel + 1) l a w := take_ (bl n m) hi hN hc hQ hy hS ha h
theorem tk8 (i N n m : Nat) (hS : S w) (h : wpAnyLast P md ops Q S ds fuel (bl n m) a' w) (hi : ops[i]? = some oi := by exact rfl) (hN : oi.dst = some N := by exact rfl) (hc : takeB md ops ds l (bl n m) i = true := by first | exact take_ofW HT_.out HW_.out (by kernel_rfl) | exact take_of HT_.out (by kernel_rfl) | kernel_rfl)
    (hQ : ∀ c a w, Q (.panic c) (a.put oi.dst v) w → Q (.panic c) a w := by exact fun _ _ _ h => h) (hy : YieldsIf P ops S oi v a := by (refine Or.inl ⟨by rfl, ?_⟩; rintro w' ⟨s0, s1, s2, s3, s4, s5, s6, s7⟩; go_simp; with_reducible rfl))
    (ha : a.put (some N) v = a' := by (simp only [Act.put, List.setIfInBounds_toArray, List.set_cons_zero, List.set_cons_succ, i64_w, i32_w]; rfl)) : wpAnyLast P md ops Q S ds (fuel + 1) l a w := take_ (bl n m) hi hN hc hQ hy hS ha h
theorem bxs (N : Nat) (cs : Array Value) (t : TypeId) (h : ∀ g, g = W.heap.size → ∀ w1, w1.heap[g]? = some (.cells cs t (0, 0)) → Below W.heap.size W w1 → Kc (a.put o.dst (.pointer (some ⟨g, 0, none⟩))) w1) (hd : o.dst = some N := by exact rfl) (hg : Region.wanted o (yielded ops a.tmps) = true := by rfl)
    (hr : (execOp a.eval o).run P W = .ok (.value (.pointer (some ⟨W.heap.size, 0, none⟩))) (W.alloc (.cells cs t (0, 0))) := by first | (go_simp; done) | (go_simp; rfl)) : if Region.wanted o (yielded ops a.tmps) = true then Oper.wp P o a W Kc Q else Kc (a.put o.dst undef) W := box_step hg hd hr h
theorem bxe (N : Nat) (cs : Array Value) (t : TypeId) (h : ∀ g, g = W.heap.size → ∀ w1, w1.heap[g]? = some (.cells cs t (0, 0)) → Below W.heap.size W w1 → wpList P ops Q rest (a.put o.dst (.pointer (some ⟨g, 0, none⟩))) w1) (hd : o.dst = some N := by exact rfl) (hg : o.guard = none := by rfl)
    (hr : (execOp a.eval o).run P W = .ok (.value (.pointer (some ⟨W.heap.size, 0, none⟩))) (W.alloc (.cells cs t (0, 0))) := by first | (go_simp; done) | (go_simp; rfl)) : wpList P ops Q (o :: rest) a W := box_event hg hd hr h
end
section
variable {w W W' w1 : World} {g gb : Nat} {o : Obj}
theorem gw (hg : gb = W.heap.size) (h : Below w.heap.size w W := by repeat (first | (with_reducible first | exact HB.out | apply below_alloc | apply pw_below_drewN | apply below_drew1 | refine below_set ?_ (Aside0.out (by assumption))) | exact HB.out)) : Aside0 (w.heap.size ≤ gb) := ⟨by rw [hg]; exact h.size⟩
theorem nb (h : Aside0 (W'.heap[g]? = some o)) (hg : gb = W.heap.size) (k : W'.heap[g]? = some o → W.heap[g]? = some o := by intro h_; (with_reducible repeat (first | refine blk_drewN ?_ _ | refine blk_drew ?_ | refine blk_alloc ?_ _)); exact h_) : Aside0 (g ≠ gb) := ⟨by rw [hg]; exact Nat.ne_of_lt (blk_lt (k h.out))⟩
theorem nc (h : Aside0 (W'.heap[g]? = some o)) (hg : gb = W.heap.size) (k : W'.heap[g]? = some o → W.heap[g]? = some o := by intro h_; (with_reducible repeat (first | refine blk_drewN ?_ _ | refine blk_drew ?_ | refine blk_alloc ?_ _)); exact h_) : Aside0 (gb ≠ g) := ⟨by rw [hg]; exact Nat.ne_of_gt (blk_lt (k h.out))⟩
theorem rE {α : Type} {d : Kd α} {e base : Nat} {ok : Nat → Prop} {v : Value} {xs : List α} (h : Aside0 (d.R e W' base ok v xs)) (hg : gb = W.heap.size) (hb : Below W.heap.size W w1) (k : d.R e W' base ok v xs → d.R e W base ok v xs := by intro h_; (with_reducible repeat (first | apply Kd.R_alloc | apply Kd.R_drewN | apply Kd.R_drew)); exact h_) : Aside0 (d.R e w1 base (fun k => ok k ∧ k ≠ gb) v xs) := ⟨Kd.R_below (Kd.R_elderB (k h.out) gb (Nat.le_of_eq hg.symm)) hb⟩
theorem cf (g : Nat) {i : Nat} {a : Addr} {v : Value} (h : a.block ≠ g) : (W.setCell ⟨g, i, none⟩ v).cell? a = W.cell? a := cell_far (p := ⟨g, i, none⟩) h v
theorem fl {a : Addr} {v : Value} {q : Prop} (h : w.cell? a = some v) (hg : Aside0 (w.heap.size ≤ gb)) (k : a.block ≠ gb → q := by intro h_; first | exact h_ | (rw [add_block]; exact h_) | (show (Addr.add _ _).block ≠ _; rw [add_block]; exact h_) | (dsimp only; exact h_) | (rw [add_block] at h_; exact h_)) : q := k (Nat.ne_of_lt (Nat.lt_of_lt_of_le (World.block_lt_of_cell? w _ h) hg.out))
end
section
variable {w : World} {g : Nat} {t : TypeId}
theorem cz2 {x0 x1 : Value} (h : w.heap[g]? = some (.cells #[x0, x1] t (0, 0))) : w.cell? ⟨g, 0, none⟩ = some x0 ∧ w.cell? ⟨g, 1, none⟩ = some x1 := ⟨(blk_cell h 0).trans rfl, (blk_cell h 1).trans rfl⟩
theorem fz2 {x0 x1 : Value} (h : w.heap[g]? = some (.cells #[x0, x1] t (0, 0))) : w.frozen? ⟨g, 0, none⟩ = false ∧ w.frozen? ⟨g, 1, none⟩ = false := ⟨blk_frozen h 0, blk_frozen h 1⟩
theorem cz4 {x0 x1 x2 x3 : Value} (h : w.heap[g]? = some (.cells #[x0, x1, x2, x3] t (0, 0))) : w.cell? ⟨g, 0, none⟩ = some x0 ∧ w.cell? ⟨g, 1, none⟩ = some x1 ∧ w.cell? ⟨g, 2, none⟩ = some x2 ∧ w.cell? ⟨g, 3, none⟩ = some x3 := ⟨(blk_cell h 0).trans rfl, (blk_cell h 1).trans rfl, (blk_cell h 2).trans rfl, (blk_cell h 3).trans rfl⟩
theorem fz4 {x0 x1 x2 x3 : Value} (h : w.heap[g]? = some (.cells #[x0, x1, x2, x3] t (0, 0))) : w.frozen? ⟨g, 0, none⟩ = false ∧ w.frozen? ⟨g, 1, none⟩ = false ∧ w.frozen? ⟨g, 2, none⟩ = false ∧ w.frozen? ⟨g, 3, none⟩ = false := ⟨blk_frozen h 0, blk_frozen h 1, blk_frozen h 2, blk_frozen h 3⟩
theorem cz5 {x0 x1 x2 x3 x4 : Value} (h : w.heap[g]? = some (.cells #[x0, x1, x2, x3, x4] t (0, 0))) : w.cell? ⟨g, 0, none⟩ = some x0 ∧ w.cell? ⟨g, 1, none⟩ = some x1 ∧ w.cell? ⟨g, 2, none⟩ = some x2 ∧ w.cell? ⟨g, 3, none⟩ = some x3 ∧ w.cell? ⟨g, 4, none⟩ = some x4 := ⟨(blk_cell h 0).trans rfl, (blk_cell h 1).trans rfl, (blk_cell h 2).trans rfl, (blk_cell h 3).trans rfl, (blk_cell h 4).trans rfl⟩
theorem fz5 {x0 x1 x2 x3 x4 : Value} (h : w.heap[g]? = some (.cells #[x0, x1, x2, x3, x4] t (0, 0))) : w.frozen? ⟨g, 0, none⟩ = false ∧ w.frozen? ⟨g, 1, none⟩ = false ∧ w.frozen? ⟨g, 2, none⟩ = false ∧ w.frozen? ⟨g, 3, none⟩ = false ∧ w.frozen? ⟨g, 4, none⟩ = false := ⟨blk_frozen h 0, blk_frozen h 1, blk_frozen h 2, blk_frozen h 3, blk_frozen h 4⟩
theorem cz7 {x0 x1 x2 x3 x4 x5 x6 : Value} (h : w.heap[g]? = some (.cells #[x0, x1, x2, x3, x4, x5, x6] t (0, 0))) : w.cell? ⟨g, 0, none⟩ = some x0 ∧ w.cell? ⟨g, 1, none⟩ = some x1 ∧ w.cell? ⟨g, 2, none⟩ = some x2 ∧ w.cell? ⟨g, 3, none⟩ = some x3 ∧ w.cell? ⟨g, 4, none⟩ = some x4 ∧ w.cell? ⟨g, 5, none⟩ = some x5 ∧ w.cell? ⟨g, 6, none⟩ = some x6 := ⟨(blk_cell h 0).trans rfl, (blk_cell h 1).trans rfl, (blk_cell h 2).trans rfl, (blk_cell h 3).trans rfl, (blk_cell h 4).trans rfl, (blk_cell h 5).trans rfl, (blk_cell h 6).trans rfl⟩
theorem fz7 {x0 x1 x2 x3 x4 x5 x6 : Value} (h : w.heap[g]? = some (.cells #[x0, x1, x2, x3, x4, x5, x6] t (0, 0))) : w.frozen? ⟨g, 0, none⟩ = false ∧ w.frozen? ⟨g, 1, none⟩ = false ∧ w.frozen? ⟨g, 2, none⟩ = false ∧ w.frozen? ⟨g, 3, none⟩ = false ∧ w.frozen? ⟨g, 4, none⟩ = false ∧ w.frozen? ⟨g, 5, none⟩ = false ∧ w.frozen? ⟨g, 6, none⟩ = false := ⟨blk_frozen h 0, blk_frozen h 1, blk_frozen h 2, blk_frozen h 3, blk_frozen h 4, blk_frozen h 5, blk_frozen h 6⟩
end
end Go.Proofs.YtdmdahafiiggiaaGreatDoor.K
end
section
namespace Go.Proofs.YtdmdahafiiggiaaGreatDoor.K
open Go.RowKit Go.Proofs.YtdmdahafiiggiaaGreatDoorW.PrintWords Go.Proofs.YtdmdahafiiggiaaGreatDoorW.PrintLast Go.Proofs.YtdmdahafiiggiaaGreatDoorW.PrintMore
attribute [local go_sem] max2_int min2_int max_two min_two max_three min_three max_four min_four
def quinarialaw02_short.f (l0_0 : List Int) (l0_1 : List (S32)) : Option (Bool) := if (l0_0.length : Int) ≤ 13 then (some (decide ((l0_1.length : Int) ≤ 10))) else (some false)
set_option maxHeartbeats 8000000 in
set_option maxRecDepth 100000 in
theorem quinarialaw02_short.calls (A0_0 : Option Addr) (c0_0 : Nat) (l0_0 : List Int) (A0_1 : Option Addr) (c0_1 : Nat) (l0_1 : List (S32)) (r : Bool) (w : World) (hr0_0 : Kd.C (Kd.int .i64) w A0_0 l0_0.length l0_0) (hc0_0 : l0_0.length ≤ c0_0) (hr0_1 : Kd.C k32 w A0_1 l0_1.length l0_1) (hc0_1 : l0_1.length ≤ c0_1) (h : quinarialaw02_short.f l0_0 l0_1 = some r) :
  Calls Tryz.prog 13 #[.agg #[.slice A0_0 l0_0.length c0_0, .slice A0_1 l0_1.length c0_1]] w fun e w' => e = .returned (.bool r) ∧ Below w.heap.size w w' := by
 have hu25 := Tryz.underlying25; have HR0_0 := Aside0.mk hr0_0; have HC0_0 := Aside0.mk hc0_0; clear hr0_0 hc0_0; have HR0_1 := Aside0.mk hr0_1; have HC0_1 := Aside0.mk hc0_1; clear hr0_1 hc0_1; have HB := Aside0.mk (Below.refl w.heap.size w); have H : (if (l0_0.length : Int) ≤ 13 then (some (decide ((l0_1.length : Int) ≤ 10))) else (some false)) = some r := h; clear h
 by_cases c2 : (l0_0.length : Int) ≤ 13
 ·rw [if_pos c2] at H; have c2b0 : decide ((l0_0.length : Int) ≤ 13) = true := decide_eq_true c2; have c2b1 : decide (l0_0.length ≤ 13) = true := decide_eq_true (by omega); clear c2; obtain rfl := Option.some.inj H
  go_enter Tryz.func13, Tryz.ntmps13
  go_wp2_with (first | ((with_reducible refine gate_dst (N := 1) rfl ?_); (try (refine gate_guard (by rfl) ?_; dsimp only)); refine bxe 1 #[.slice A0_0 l0_0.length c0_0, .slice A0_1 l0_1.length c0_1] 25 ?_; intro gb104 hg w3 hbox hb; have n0_ := Aside0.mk (below_step HB.out hb); have n1_ := Aside0.mk (hbox); have n2_ := gw hg; have n3_ := n2_; clear HB; have HB := n0_; have BK104 := n1_; have GW104 := n2_; have GE104 := n3_; clear n0_ n1_ n2_ n3_; clear hb hbox hg; obtain ⟨hcz4_0, hcz4_1⟩ := cz2 BK104.out; obtain ⟨hfz4_0, hfz4_1⟩ := fz2 BK104.out))
  go_ret; exact ⟨uE, uB⟩
 ·rw [if_neg c2] at H; have c2b0 : decide ((l0_0.length : Int) ≤ 13) = false := decide_eq_false c2; have c2b1 : decide (l0_0.length ≤ 13) = false := decide_eq_false (by omega); clear c2; obtain rfl := Option.some.inj H
  go_enter Tryz.func13, Tryz.ntmps13
  go_wp2_with (first | ((with_reducible refine gate_dst (N := 1) rfl ?_); (try (refine gate_guard (by rfl) ?_; dsimp only)); refine bxe 1 #[.slice A0_0 l0_0.length c0_0, .slice A0_1 l0_1.length c0_1] 25 ?_; intro gb104 hg w5 hbox hb; have n0_ := Aside0.mk (below_step HB.out hb); have n1_ := Aside0.mk (hbox); have n2_ := gw hg; have n3_ := n2_; clear HB; have HB := n0_; have BK104 := n1_; have GW104 := n2_; have GE104 := n3_; clear n0_ n1_ n2_ n3_; clear hb hbox hg; obtain ⟨hcz6_0, hcz6_1⟩ := cz2 BK104.out; obtain ⟨hfz6_0, hfz6_1⟩ := fz2 BK104.out))
  go_ret; exact ⟨uE, uB⟩
end Go.Proofs.YtdmdahafiiggiaaGreatDoor.K
end
section
namespace Go.Proofs.YtdmdahafiiggiaaGreatDoor.K
open Go.RowKit Go.Proofs.YtdmdahafiiggiaaGreatDoorW.PrintWords Go.Proofs.YtdmdahafiiggiaaGreatDoorW.PrintLast Go.Proofs.YtdmdahafiiggiaaGreatDoorW.PrintMore
attribute [local go_sem] max2_int min2_int max_two min_two max_three min_three max_four min_four
def quinariaref02_in.f (a0 : Int) (a1 : Int) (a2 : Int) : Option (Bool) := if a0 ≥ a1 then (some (decide (a0 ≤ a2))) else (some false)
set_option maxHeartbeats 8000000 in
set_option maxRecDepth 100000 in
theorem quinariaref02_in.calls (a0 : Int) (a1 : Int) (a2 : Int) (r : Bool) (w : World) (h : quinariaref02_in.f a0 a1 a2 = some r) :
  Calls Tryz.prog 42 #[.int .i64 a0, .int .i64 a1, .int .i64 a2] w fun e w' => e = .returned (.bool r) ∧ Drawn0 w w' := by
 have H : (if a0 ≥ a1 then (some (decide (a0 ≤ a2))) else (some false)) = some r := h; clear h
 by_cases c4 : a0 ≥ a1
 ·rw [if_pos c4] at H; replace c4 := decide_eq_true c4; obtain rfl := Option.some.inj H
  go_enter Tryz.func42, Tryz.ntmps42
  go_wp2; go_ret; exact ⟨u0, by repeat (first | exact Drawn0.refl _ | apply Drawn0.step)⟩
 ·rw [if_neg c4] at H; replace c4 := decide_eq_false c4; obtain rfl := Option.some.inj H
  go_enter Tryz.func42, Tryz.ntmps42
  go_wp2; go_ret; exact ⟨u0, by repeat (first | exact Drawn0.refl _ | apply Drawn0.step)⟩
end Go.Proofs.YtdmdahafiiggiaaGreatDoor.K
end
section
namespace Go.Proofs.YtdmdahafiiggiaaGreatDoor.K
open Go.RowKit Go.Proofs.YtdmdahafiiggiaaGreatDoorW.PrintWords Go.Proofs.YtdmdahafiiggiaaGreatDoorW.PrintLast Go.Proofs.YtdmdahafiiggiaaGreatDoorW.PrintMore
attribute [local go_sem] max2_int min2_int max_two min_two max_three min_three max_four min_four
def quinariaref02_between.f (a0_0 : Int) (a0_1 : Int) (a1 : Int) (a2 : Int) : Option (Bool) := (quinariaref02_in.f a0_0 a1 a2).bind fun t106 => (if t106 = true then ((quinariaref02_in.f a0_1 a1 a2).bind fun t107 => (if t107 = true then (some (decide (a0_0 ≤ a0_1))) else (some false))) else (some false))
set_option maxHeartbeats 8000000 in
set_option maxRecDepth 100000 in
theorem quinariaref02_between.calls (a0_0 : Int) (a0_1 : Int) (a1 : Int) (a2 : Int) (r : Bool) (w : World) (h : quinariaref02_between.f a0_0 a0_1 a1 a2 = some r) :
  Calls Tryz.prog 86 #[.agg #[.int .i64 a0_0, .int .i64 a0_1], .int .i64 a1, .int .i64 a2] w fun e w' => e = .returned (.bool r) ∧ Below w.heap.size w w' := by
 have hu30 := Tryz.underlying30; have HB := Aside0.mk (Below.refl w.heap.size w); have H : ((quinariaref02_in.f a0_0 a1 a2).bind fun t106 => (if t106 = true then ((quinariaref02_in.f a0_1 a1 a2).bind fun t107 => (if t107 = true then (some (decide (a0_0 ≤ a0_1))) else (some false))) else (some false))) = some r := h; clear h; replace H := Option.bind_eq_some_iff.mp H; obtain ⟨t106, A40, H⟩ := H; replace H : (if t106 = true then ((quinariaref02_in.f a0_1 a1 a2).bind fun t107 => (if t107 = true then (some (decide (a0_0 ≤ a0_1))) else (some false))) else (some false)) = some r := H; have A4 := Aside0.mk A40; clear A40
 by_cases c5 : t106 = true
 ·subst c5; have H1 : ((quinariaref02_in.f a0_1 a1 a2).bind fun t107 => (if t107 = true then (some (decide (a0_0 ≤ a0_1))) else (some false))) = some r := by rw [if_pos rfl] at H; exact H
  clear H; have H := H1; clear H1; replace H := Option.bind_eq_some_iff.mp H; obtain ⟨t107, A60, H⟩ := H; replace H : (if t107 = true then (some (decide (a0_0 ≤ a0_1))) else (some false)) = some r := H; have A6 := Aside0.mk A60; clear A60
  by_cases c7 : t107 = true
  ·subst c7; have H1 : (some (decide (a0_0 ≤ a0_1))) = some r := by rw [if_pos rfl] at H; exact H
   clear H; have H := H1; clear H1; obtain rfl := Option.some.inj H
   go_enter Tryz.func86, Tryz.ntmps86
   go_wp2_with (first | ((with_reducible refine gate_dst (N := 3) rfl ?_); refine bxe 3 #[.int .i64 a0_0, .int .i64 a0_1] 30 ?_; intro gb105 hg w8 hbox hb; have n0_ := Aside0.mk (below_step HB.out hb); have n1_ := Aside0.mk (hbox); have n2_ := gw hg; have n3_ := n2_; clear HB; have HB := n0_; have BK105 := n1_; have GW105 := n2_; have GE105 := n3_; clear n0_ n1_ n2_ n3_; clear hb hbox hg; obtain ⟨hcz9_0, hcz9_1⟩ := cz2 BK105.out; obtain ⟨hfz9_0, hfz9_1⟩ := fz2 BK105.out) | ((with_reducible refine gate_callee (f := 42) rfl ?_); refine goesL_ (some 11) rfl rfl Tryz.func42 (by kernel_rfl) rfl #[.int .i64 a0_0, .int .i64 a1, .int .i64 a2] rfl uM ?_; (with_reducible refine (quinariaref02_in.calls a0_0 a1 a2 true _ A4.out).mono ?_); rintro e w' ⟨rfl, ⟨nd, rfl⟩⟩; refine ⟨_, rfl, ?_⟩) | (go_at_call 42; (with_reducible refine (quinariaref02_in.calls a0_1 a1 a2 true _ A6.out).mono ?_); rintro e w' ⟨rfl, ⟨nd, rfl⟩⟩))
   go_ret; exact ⟨uE, uB⟩
  ·replace c7 := Bool.eq_false_iff.mpr c7; subst c7; have H1 : (some false) = some r := by rw [if_neg (show ¬ (false = true) by decide)] at H; exact H
   clear H; have H := H1; clear H1; obtain rfl := Option.some.inj H
   go_enter Tryz.func86, Tryz.ntmps86
   go_wp2_with (first | ((with_reducible refine gate_dst (N := 3) rfl ?_); refine bxe 3 #[.int .i64 a0_0, .int .i64 a0_1] 30 ?_; intro gb105 hg w10 hbox hb; have n0_ := Aside0.mk (below_step HB.out hb); have n1_ := Aside0.mk (hbox); have n2_ := gw hg; have n3_ := n2_; clear HB; have HB := n0_; have BK105 := n1_; have GW105 := n2_; have GE105 := n3_; clear n0_ n1_ n2_ n3_; clear hb hbox hg; obtain ⟨hcz11_0, hcz11_1⟩ := cz2 BK105.out; obtain ⟨hfz11_0, hfz11_1⟩ := fz2 BK105.out) | ((with_reducible refine gate_callee (f := 42) rfl ?_); refine goesL_ (some 11) rfl rfl Tryz.func42 (by kernel_rfl) rfl #[.int .i64 a0_0, .int .i64 a1, .int .i64 a2] rfl uM ?_; (with_reducible refine (quinariaref02_in.calls a0_0 a1 a2 true _ A4.out).mono ?_); rintro e w' ⟨rfl, ⟨nd, rfl⟩⟩; refine ⟨_, rfl, ?_⟩) | (go_at_call 42; (with_reducible refine (quinariaref02_in.calls a0_1 a1 a2 false _ A6.out).mono ?_); rintro e w' ⟨rfl, ⟨nd, rfl⟩⟩))
   go_ret; exact ⟨uE, uB⟩
 ·replace c5 := Bool.eq_false_iff.mpr c5; subst c5; have H1 : (some false) = some r := by rw [if_neg (show ¬ (false = true) by decide)] at H; exact H
  clear H; have H := H1; clear H1; obtain rfl := Option.some.inj H
  go_enter Tryz.func86, Tryz.ntmps86
  go_wp2_with (first | ((with_reducible refine gate_dst (N := 3) rfl ?_); refine bxe 3 #[.int .i64 a0_0, .int .i64 a0_1] 30 ?_; intro gb105 hg w12 hbox hb; have n0_ := Aside0.mk (below_step HB.out hb); have n1_ := Aside0.mk (hbox); have n2_ := gw hg; have n3_ := n2_; clear HB; have HB := n0_; have BK105 := n1_; have GW105 := n2_; have GE105 := n3_; clear n0_ n1_ n2_ n3_; clear hb hbox hg; obtain ⟨hcz13_0, hcz13_1⟩ := cz2 BK105.out; obtain ⟨hfz13_0, hfz13_1⟩ := fz2 BK105.out) | ((with_reducible refine gate_callee (f := 42) rfl ?_); refine goesL_ (some 11) rfl rfl Tryz.func42 (by kernel_rfl) rfl #[.int .i64 a0_0, .int .i64 a1, .int .i64 a2] rfl uM ?_; (with_reducible refine (quinariaref02_in.calls a0_0 a1 a2 false _ A4.out).mono ?_); rintro e w' ⟨rfl, ⟨nd, rfl⟩⟩; refine ⟨_, rfl, ?_⟩))
  go_ret; exact ⟨uE, uB⟩
end Go.Proofs.YtdmdahafiiggiaaGreatDoor.K
end
section
namespace Go.Proofs.YtdmdahafiiggiaaGreatDoor.K
open Go.RowKit Go.Proofs.YtdmdahafiiggiaaGreatDoorW.PrintWords Go.Proofs.YtdmdahafiiggiaaGreatDoorW.PrintLast Go.Proofs.YtdmdahafiiggiaaGreatDoorW.PrintMore
attribute [local go_sem] max2_int min2_int max_two min_two max_three min_three max_four min_four
def quinariaref02_stretch.f (a0_0 : Int) (a0_1 : Int) (a0_2 : Int) (a0_3 : Int) (a0_4 : Int) (a1 : Int) : Option (Bool) := (quinariaref02_in.f a0_0 1 100).bind fun t109 => (if t109 = true then ((quinariaref02_in.f a0_1 1 100).bind fun t110 => (if t110 = true then ((quinariaref02_in.f a0_2 0 (wrap64 (a1 - 1))).bind fun t111 => (if t111 = true then ((quinariaref02_between.f a0_3 a0_4 0 100).bind fun t112 => (some t112)) else (some false))) else (some false))) else (some false))
set_option maxHeartbeats 8000000 in
set_option maxRecDepth 100000 in
theorem quinariaref02_stretch.calls (a0_0 : Int) (a0_1 : Int) (a0_2 : Int) (a0_3 : Int) (a0_4 : Int) (a1 : Int) (r : Bool) (w : World) (h : quinariaref02_stretch.f a0_0 a0_1 a0_2 a0_3 a0_4 a1 = some r) :
  Calls Tryz.prog 43 #[.agg #[.int .i64 a0_0, .int .i64 a0_1, .int .i64 a0_2, .int .i64 a0_3, .int .i64 a0_4], .int .i64 a1] w fun e w' => e = .returned (.bool r) ∧ Below w.heap.size w w' := by
 have hu32 := Tryz.underlying32; have hu30 := Tryz.underlying30; have HB := Aside0.mk (Below.refl w.heap.size w); have H : ((quinariaref02_in.f a0_0 1 100).bind fun t109 => (if t109 = true then ((quinariaref02_in.f a0_1 1 100).bind fun t110 => (if t110 = true then ((quinariaref02_in.f a0_2 0 (wrap64 (a1 - 1))).bind fun t111 => (if t111 = true then ((quinariaref02_between.f a0_3 a0_4 0 100).bind fun t112 => (some t112)) else (some false))) else (some false))) else (some false))) = some r := h; clear h; replace H := Option.bind_eq_some_iff.mp H; obtain ⟨t109, A30, H⟩ := H; replace H : (if t109 = true then ((quinariaref02_in.f a0_1 1 100).bind fun t110 => (if t110 = true then ((quinariaref02_in.f a0_2 0 (wrap64 (a1 - 1))).bind fun t111 => (if t111 = true then ((quinariaref02_between.f a0_3 a0_4 0 100).bind fun t112 => (some t112)) else (some false))) else (some false))) else (some false)) = some r := H; have A3 := Aside0.mk A30; clear A30
 by_cases c4 : t109 = true
 ·subst c4; have H1 : ((quinariaref02_in.f a0_1 1 100).bind fun t110 => (if t110 = true then ((quinariaref02_in.f a0_2 0 (wrap64 (a1 - 1))).bind fun t111 => (if t111 = true then ((quinariaref02_between.f a0_3 a0_4 0 100).bind fun t112 => (some t112)) else (some false))) else (some false))) = some r := by rw [if_pos rfl] at H; exact H
  clear H; have H := H1; clear H1; replace H := Option.bind_eq_some_iff.mp H; obtain ⟨t110, A50, H⟩ := H; replace H : (if t110 = true then ((quinariaref02_in.f a0_2 0 (wrap64 (a1 - 1))).bind fun t111 => (if t111 = true then ((quinariaref02_between.f a0_3 a0_4 0 100).bind fun t112 => (some t112)) else (some false))) else (some false)) = some r := H; have A5 := Aside0.mk A50; clear A50
  by_cases c6 : t110 = true
  ·subst c6; have H1 : ((quinariaref02_in.f a0_2 0 (wrap64 (a1 - 1))).bind fun t111 => (if t111 = true then ((quinariaref02_between.f a0_3 a0_4 0 100).bind fun t112 => (some t112)) else (some false))) = some r := by rw [if_pos rfl] at H; exact H
   clear H; have H := H1; clear H1; replace H := Option.bind_eq_some_iff.mp H; obtain ⟨t111, A70, H⟩ := H; replace H : (if t111 = true then ((quinariaref02_between.f a0_3 a0_4 0 100).bind fun t112 => (some t112)) else (some false)) = some r := H; have A7 := Aside0.mk A70; clear A70
   by_cases c8 : t111 = true
   ·subst c8; have H1 : ((quinariaref02_between.f a0_3 a0_4 0 100).bind fun t112 => (some t112)) = some r := by rw [if_pos rfl] at H; exact H
    clear H; have H := H1; clear H1; replace H := Option.bind_eq_some_iff.mp H; obtain ⟨t112, A90, H⟩ := H; replace H : (some t112) = some r := H; have A9 := Aside0.mk A90; clear A90; obtain rfl := Option.some.inj H
    go_enter Tryz.func43, Tryz.ntmps43
    go_wp2_with (first | ((with_reducible refine gate_dst (N := 2) rfl ?_); refine bxe 2 #[.int .i64 a0_0, .int .i64 a0_1, .int .i64 a0_2, .int .i64 a0_3, .int .i64 a0_4] 32 ?_; intro gb108 hg w10 hbox hb; have n0_ := Aside0.mk (below_step uB hb); have n1_ := Aside0.mk (hbox); have n2_ := gw hg; have n3_ := gw hg; clear HB; have HB := n0_; have BK108 := n1_; have GW108 := n2_; have GE108 := n3_; clear n0_ n1_ n2_ n3_; clear hb hbox hg; obtain ⟨hcz11_0, hcz11_1, hcz11_2, hcz11_3, hcz11_4⟩ := cz5 BK108.out) | ((with_reducible refine gate_callee (f := 42) rfl ?_); refine goesL_ (some 7) rfl rfl Tryz.func42 (by kernel_rfl) rfl #[.int .i64 a0_0, .int .i64 1, .int .i64 100] rfl uM ?_; (with_reducible refine (quinariaref02_in.calls a0_0 1 100 true _ A3.out).mono ?_); rintro e w' ⟨rfl, ⟨nd, rfl⟩⟩; refine ⟨_, rfl, ?_⟩) | (go_at_call 42; (with_reducible refine (quinariaref02_in.calls a0_1 1 100 true _ A5.out).mono ?_); rintro e w' ⟨rfl, ⟨nd, rfl⟩⟩) | (go_at_call 42; (with_reducible refine (quinariaref02_in.calls a0_2 0 (wrap64 (a1 - 1)) true _ A7.out).mono ?_); rintro e w' ⟨rfl, ⟨nd, rfl⟩⟩) | (go_at_call 86; (with_reducible refine (quinariaref02_between.calls a0_3 a0_4 0 100 t112 _ A9.out).mono ?_); rintro e w12 ⟨rfl, hb⟩; replace BK108 := Aside0.mk (blk_below (uK BK108.out) hb); replace HB := Aside0.mk (below_step uB hb); (try clear hb)))
    go_ret; exact ⟨uE, uB⟩
   ·replace c8 := Bool.eq_false_iff.mpr c8; subst c8; have H1 : (some false) = some r := by rw [if_neg (show ¬ (false = true) by decide)] at H; exact H
    clear H; have H := H1; clear H1; obtain rfl := Option.some.inj H
    go_enter Tryz.func43, Tryz.ntmps43
    go_wp2_with (first | ((with_reducible refine gate_dst (N := 2) rfl ?_); refine bxe 2 #[.int .i64 a0_0, .int .i64 a0_1, .int .i64 a0_2, .int .i64 a0_3, .int .i64 a0_4] 32 ?_; intro gb108 hg w13 hbox hb; have n0_ := Aside0.mk (below_step uB hb); have n1_ := Aside0.mk (hbox); have n2_ := gw hg; have n3_ := gw hg; clear HB; have HB := n0_; have BK108 := n1_; have GW108 := n2_; have GE108 := n3_; clear n0_ n1_ n2_ n3_; clear hb hbox hg; obtain ⟨hcz14_0, hcz14_1, hcz14_2, hcz14_3, hcz14_4⟩ := cz5 BK108.out) | ((with_reducible refine gate_callee (f := 42) rfl ?_); refine goesL_ (some 7) rfl rfl Tryz.func42 (by kernel_rfl) rfl #[.int .i64 a0_0, .int .i64 1, .int .i64 100] rfl uM ?_; (with_reducible refine (quinariaref02_in.calls a0_0 1 100 true _ A3.out).mono ?_); rintro e w' ⟨rfl, ⟨nd, rfl⟩⟩; refine ⟨_, rfl, ?_⟩) | (go_at_call 42; (with_reducible refine (quinariaref02_in.calls a0_1 1 100 true _ A5.out).mono ?_); rintro e w' ⟨rfl, ⟨nd, rfl⟩⟩) | (go_at_call 42; (with_reducible refine (quinariaref02_in.calls a0_2 0 (wrap64 (a1 - 1)) false _ A7.out).mono ?_); rintro e w' ⟨rfl, ⟨nd, rfl⟩⟩))
    go_ret; exact ⟨uE, uB⟩
  ·replace c6 := Bool.eq_false_iff.mpr c6; subst c6; have H1 : (some false) = some r := by rw [if_neg (show ¬ (false = true) by decide)] at H; exact H
   clear H; have H := H1; clear H1; obtain rfl := Option.some.inj H
   go_enter Tryz.func43, Tryz.ntmps43
   go_wp2_with (first | ((with_reducible refine gate_dst (N := 2) rfl ?_); refine bxe 2 #[.int .i64 a0_0, .int .i64 a0_1, .int .i64 a0_2, .int .i64 a0_3, .int .i64 a0_4] 32 ?_; intro gb108 hg w15 hbox hb; have n0_ := Aside0.mk (below_step uB hb); have n1_ := Aside0.mk (hbox); have n2_ := gw hg; have n3_ := gw hg; clear HB; have HB := n0_; have BK108 := n1_; have GW108 := n2_; have GE108 := n3_; clear n0_ n1_ n2_ n3_; clear hb hbox hg; obtain ⟨hcz16_0, hcz16_1, hcz16_2, hcz16_3, hcz16_4⟩ := cz5 BK108.out) | ((with_reducible refine gate_callee (f := 42) rfl ?_); refine goesL_ (some 7) rfl rfl Tryz.func42 (by kernel_rfl) rfl #[.int .i64 a0_0, .int .i64 1, .int .i64 100] rfl uM ?_; (with_reducible refine (quinariaref02_in.calls a0_0 1 100 true _ A3.out).mono ?_); rintro e w' ⟨rfl, ⟨nd, rfl⟩⟩; refine ⟨_, rfl, ?_⟩) | (go_at_call 42; (with_reducible refine (quinariaref02_in.calls a0_1 1 100 false _ A5.out).mono ?_); rintro e w' ⟨rfl, ⟨nd, rfl⟩⟩))
   go_ret; exact ⟨uE, uB⟩
 ·replace c4 := Bool.eq_false_iff.mpr c4; subst c4; have H1 : (some false) = some r := by rw [if_neg (show ¬ (false = true) by decide)] at H; exact H
  clear H; have H := H1; clear H1; obtain rfl := Option.some.inj H
  go_enter Tryz.func43, Tryz.ntmps43
  go_wp2_with (first | ((with_reducible refine gate_dst (N := 2) rfl ?_); refine bxe 2 #[.int .i64 a0_0, .int .i64 a0_1, .int .i64 a0_2, .int .i64 a0_3, .int .i64 a0_4] 32 ?_; intro gb108 hg w17 hbox hb; have n0_ := Aside0.mk (below_step uB hb); have n1_ := Aside0.mk (hbox); have n2_ := gw hg; have n3_ := gw hg; clear HB; have HB := n0_; have BK108 := n1_; have GW108 := n2_; have GE108 := n3_; clear n0_ n1_ n2_ n3_; clear hb hbox hg; obtain ⟨hcz18_0, hcz18_1, hcz18_2, hcz18_3, hcz18_4⟩ := cz5 BK108.out) | ((with_reducible refine gate_callee (f := 42) rfl ?_); refine goesL_ (some 7) rfl rfl Tryz.func42 (by kernel_rfl) rfl #[.int .i64 a0_0, .int .i64 1, .int .i64 100] rfl uM ?_; (with_reducible refine (quinariaref02_in.calls a0_0 1 100 false _ A3.out).mono ?_); rintro e w' ⟨rfl, ⟨nd, rfl⟩⟩; refine ⟨_, rfl, ?_⟩))
  go_ret; exact ⟨uE, uB⟩
end Go.Proofs.YtdmdahafiiggiaaGreatDoor.K
end
section
namespace Go.Proofs.YtdmdahafiiggiaaGreatDoor.K
open Go.RowKit Go.Proofs.YtdmdahafiiggiaaGreatDoorW.PrintWords Go.Proofs.YtdmdahafiiggiaaGreatDoorW.PrintLast Go.Proofs.YtdmdahafiiggiaaGreatDoorW.PrintMore
attribute [local go_sem] max2_int min2_int max_two min_two max_three min_three max_four min_four
mutual
def quinariaref02_Right.l0 : Nat → Int → List Int → List (S32) → Option (Bool)
 | 0, _, _, _ => none
 | k + 1, x3, x114000, x114001 => if x3 < (x114000.length : Int) then (if 0 ≤ x3 then ((quinariaref02_in.f (rd x114000 x3) 1 1000).bind fun t115 => (if t115 = true then (quinariaref02_Right.l0 k (wrap64 (x3 + 1)) x114000 x114001) else (some false))) else (none)) else (quinariaref02_Right.l1 k 0 x114000 x114001)
def quinariaref02_Right.l1 : Nat → Int → List Int → List (S32) → Option (Bool)
 | 0, _, _, _ => none
 | k + 1, x4, x114000, x114001 => if x4 < (x114001.length : Int) then (if 0 ≤ x4 then ((quinariaref02_stretch.f ((rd_T32 x114001 x4).f0) ((rd_T32 x114001 x4).f1) ((rd_T32 x114001 x4).f2) ((rd_T32 x114001 x4).f3.f0) ((rd_T32 x114001 x4).f3.f1) (x114000.length : Int)).bind fun t117 => (if t117 = true then (quinariaref02_Right.l1 k (wrap64 (x4 + 1)) x114000 x114001) else (some false))) else (none)) else ((quinariaref02_in.f (x114000.length : Int) 1 10).bind fun t118 => (if t118 = true then ((quinariaref02_in.f (x114001.length : Int) 1 8).bind fun t119 => (some t119)) else (some false)))
end
def quinariaref02_Right.f (k : Nat) (l0_0 : List Int) (l0_1 : List (S32)) : Option (Bool) := quinariaref02_Right.l0 k 0 l0_0 l0_1
def quinariaref02_Right.T9 : Bool × List (List Nat × List Nat) := (true, [([], []), ([0], [0]), ([], []), ([1, 2], [1, 2]), ([3], [3]), ([], []), ([5], [5]), ([6], [6]), ([4, 7], [4, 7]), ([8], [8])])
def quinariaref02_Right.B9 : List Nat := [0, 1, 0, 7, 15, 0, 32, 96, 255, 511]
theorem quinariaref02_Right.tab9 : rtab .any (opsOf Tryz.f14 9) = quinariaref02_Right.T9 := by kernel_rfl
theorem quinariaref02_Right.bits9 : waitsOk quinariaref02_Right.T9.2 quinariaref02_Right.B9 = true := by kernel_rfl
set_option maxHeartbeats 8000000 in
set_option maxRecDepth 100000 in
theorem quinariaref02_Right.calls (k : Nat) (A0_0 : Option Addr) (c0_0 : Nat) (l0_0 : List Int) (A0_1 : Option Addr) (c0_1 : Nat) (l0_1 : List (S32)) (r : Bool) (w : World) (hr0_0 : Kd.C (Kd.int .i64) w A0_0 l0_0.length l0_0) (hc0_0 : l0_0.length ≤ c0_0) (hr0_1 : Kd.C k32 w A0_1 l0_1.length l0_1) (hc0_1 : l0_1.length ≤ c0_1) (h : quinariaref02_Right.f k l0_0 l0_1 = some r) :
  Calls Tryz.prog 14 #[.agg #[.slice A0_0 l0_0.length c0_0, .slice A0_1 l0_1.length c0_1]] w fun e w' => e = .returned (.bool r) ∧ Below w.heap.size w w' := by
 have hu25 := Tryz.underlying25; have hu32 := Tryz.underlying32; have HR0_0 := Aside0.mk hr0_0; have HC0_0 := Aside0.mk hc0_0; clear hr0_0 hc0_0; have HR0_1 := Aside0.mk hr0_1; have HC0_1 := Aside0.mk hc0_1; clear hr0_1 hc0_1; have HB := Aside0.mk (Below.refl w.heap.size w); have H : (quinariaref02_Right.l0 k 0 l0_0 l0_1) = some r := h; clear h; have H' := Aside0.mk H; clear H
 go_enter Tryz.func14, Tryz.ntmps14
 go_wp2_with (first | ((with_reducible refine gate_dst (N := 1) rfl ?_); (try (refine gate_guard (by rfl) ?_; dsimp only)); refine bxe 1 #[.slice A0_0 l0_0.length c0_0, .slice A0_1 l0_1.length c0_1] 25 ?_; intro gb113 hg w2 hbox hb; have n0_ := Aside0.mk (below_step HB.out hb); have n1_ := Aside0.mk (hbox); have n2_ := gw hg; have n3_ := n2_; clear HB; have HB := n0_; have BK113 := n1_; have GW113 := n2_; have GE113 := n3_; clear n0_ n1_ n2_ n3_; clear hb hbox hg))
 go_loopg [3] k (fun kq v3 w' => ∃ (x3_1 : Int), v3 = .int .i64 x3_1 ∧ Aside0 (quinariaref02_Right.l0 kq x3_1 l0_0 l0_1 = some r) ∧ Aside0 (kq ≤ k) ∧ Aside0 (w'.heap[gb113]? = some (.cells #[(.slice A0_0 l0_0.length c0_0), (.slice A0_1 l0_1.length c0_1)] 25 (0, 0))) ∧ Aside0 (Below w.heap.size w w'))
 case atStart => exact ⟨(0), u0, H', ⟨Nat.le_refl _⟩, ⟨uK BK113.out⟩, ⟨uB⟩⟩
 case round =>
  clear H'; try clear c1; try clear p2
  obtain ⟨x3_1, rfl, HA, HK1, BK113, HB⟩ := hrel
  cases gk with
  | zero => exact absurd HA.out (by simp [quinariaref02_Right.l0])
  | succ k1 =>
   have H := HA.out; clear HA; simp only [quinariaref02_Right.l0] at H
   by_cases c3 : x3_1 < (l0_0.length : Int)
   ·rw [if_pos c3] at H; replace c3 := decide_eq_true c3; obtain ⟨c4, H⟩ := ifs H; replace c4 := decide_eq_true c4; replace H := Option.bind_eq_some_iff.mp H; obtain ⟨t115, A50, H⟩ := H; replace H : (if t115 = true then (quinariaref02_Right.l0 k1 (wrap64 (x3_1 + 1)) l0_0 l0_1) else (some false)) = some r := H; have A5 := Aside0.mk A50; clear A50
    by_cases c6 : t115 = true
    ·subst c6; have H1 : (quinariaref02_Right.l0 k1 (wrap64 (x3_1 + 1)) l0_0 l0_1) = some r := by rw [if_pos rfl] at H; exact H
     clear H; have H := H1; clear H1; have H' := Aside0.mk H; clear H; obtain ⟨hcz7_0, hcz7_1⟩ := cz2 BK113.out; obtain ⟨hfz7_0, hfz7_1⟩ := fz2 BK113.out; have p114 : 0 ≤ (x3_1 : Int) := of_decide_eq_true (by assumption); have q114 : x3_1 < (l0_0.length : Int) := of_decide_eq_true (by assumption); obtain ⟨ad114, e114, hx114_0⟩ := Kd.at_int HR0_0.out x3_1 p114 q114
     cases e114
     replace hx114_0 := hcell HB.out hx114_0; replace p114 := eq_true p114; replace q114 := eq_true q114
     go_wp2_with (first | ((with_reducible refine gate_callee (f := 42) rfl ?_); refine goesL_ (some 17) rfl rfl Tryz.func42 (by kernel_rfl) rfl #[.int .i64 (rd l0_0 x3_1), .int .i64 1, .int .i64 1000] rfl uM ?_; (with_reducible refine (quinariaref02_in.calls (rd l0_0 x3_1) 1 1000 true _ A5.out).mono ?_); rintro e w' ⟨rfl, ⟨nd, rfl⟩⟩; refine ⟨_, rfl, ?_⟩))
     go_roundg k1
     case measure => have := HK1.out; omega
     case rel => exact ⟨(wrap64 (x3_1 + 1)), u0, H', ⟨by have := HK1.out; omega⟩, ⟨uK BK113.out⟩, ⟨uB⟩⟩
    ·replace c6 := Bool.eq_false_iff.mpr c6; subst c6; have H1 : (some false) = some r := by rw [if_neg (show ¬ (false = true) by decide)] at H; exact H
     clear H; have H := H1; clear H1; obtain rfl := Option.some.inj H; obtain ⟨hcz8_0, hcz8_1⟩ := cz2 BK113.out; obtain ⟨hfz8_0, hfz8_1⟩ := fz2 BK113.out; have p114 : 0 ≤ (x3_1 : Int) := of_decide_eq_true (by assumption); have q114 : x3_1 < (l0_0.length : Int) := of_decide_eq_true (by assumption); obtain ⟨ad114, e114, hx114_0⟩ := Kd.at_int HR0_0.out x3_1 p114 q114
     cases e114
     replace hx114_0 := hcell HB.out hx114_0; replace p114 := eq_true p114; replace q114 := eq_true q114
     go_wp2_with (first | ((with_reducible refine gate_callee (f := 42) rfl ?_); refine goesL_ (some 17) rfl rfl Tryz.func42 (by kernel_rfl) rfl #[.int .i64 (rd l0_0 x3_1), .int .i64 1, .int .i64 1000] rfl uM ?_; (with_reducible refine (quinariaref02_in.calls (rd l0_0 x3_1) 1 1000 false _ A5.out).mono ?_); rintro e w' ⟨rfl, ⟨nd, rfl⟩⟩; refine ⟨_, rfl, ?_⟩))
     go_ret; exact ⟨uE, uB⟩
   ·rw [if_neg c3] at H; replace c3 := decide_eq_false c3; have H' := Aside0.mk H; clear H; obtain ⟨hcz9_0, hcz9_1⟩ := cz2 BK113.out; obtain ⟨hfz9_0, hfz9_1⟩ := fz2 BK113.out; go_wp2
    go_loopg [4] k1 (fun kq v4 w' => ∃ (x4_2 : Int), v4 = .int .i64 x4_2 ∧ Aside0 (quinariaref02_Right.l1 kq x4_2 l0_0 l0_1 = some r) ∧ Aside0 (kq ≤ k1) ∧ Aside0 (w'.heap[gb113]? = some (.cells #[(.slice A0_0 l0_0.length c0_0), (.slice A0_1 l0_1.length c0_1)] 25 (0, 0))) ∧ Aside0 (Below w.heap.size w w'))
    case atStart => exact ⟨(0), u0, H', ⟨Nat.le_refl _⟩, ⟨uK BK113.out⟩, ⟨uB⟩⟩
    case round =>
     clear H'; try clear c1; try clear p1; try clear q1; try clear hx1; try clear p2; try clear c3; try clear c3b0; try clear c4; try clear c4b0; try clear c6; try clear p6; try clear hcz7_0; try clear hcz7_1; try clear hcz8_0; try clear hcz8_1; try clear hcz9_0; try clear hcz9_1; try clear hfz7_0; try clear hfz7_1; try clear hfz8_0; try clear hfz8_1; try clear hfz9_0; try clear hfz9_1; try clear hx114_0; try clear p114; try clear p2; try clear q114
     obtain ⟨x4_2, rfl, HA, HK2, BK113, HB⟩ := hrel
     cases gk with
     | zero => exact absurd HA.out (by simp [quinariaref02_Right.l1])
     | succ k2 =>
      have H := HA.out; clear HA; simp only [quinariaref02_Right.l1] at H
      by_cases c10 : x4_2 < (l0_1.length : Int)
      ·rw [if_pos c10] at H; replace c10 := decide_eq_true c10; obtain ⟨c11, H⟩ := ifs H; replace c11 := decide_eq_true c11; replace H := Option.bind_eq_some_iff.mp H; obtain ⟨t117, A120, H⟩ := H; replace H : (if t117 = true then (quinariaref02_Right.l1 k2 (wrap64 (x4_2 + 1)) l0_0 l0_1) else (some false)) = some r := H; have A12 := Aside0.mk A120; clear A120
       by_cases c13 : t117 = true
       ·subst c13; have H1 : (quinariaref02_Right.l1 k2 (wrap64 (x4_2 + 1)) l0_0 l0_1) = some r := by rw [if_pos rfl] at H; exact H
        clear H; have H := H1; clear H1; have H' := Aside0.mk H; clear H; obtain ⟨hcz14_0, hcz14_1⟩ := cz2 BK113.out; obtain ⟨hfz14_0, hfz14_1⟩ := fz2 BK113.out; (try go_wp2); replace BK113 := Aside0.mk (blk_drew BK113.out); replace HB := Aside0.mk (below_drew1 HB.out); have p116 : 0 ≤ (x4_2 : Int) := of_decide_eq_true (by assumption); have q116 : x4_2 < (l0_1.length : Int) := of_decide_eq_true (by assumption); obtain ⟨ad116, e116, hx116_0, hx116_1, hx116_2, hx116_3, hx116_4⟩ := at_T32 HR0_1.out x4_2 p116 q116; have hw116_4 := hx116_4; have hw116_3 := hx116_3; have hw116_2 := hx116_2; have hw116_1 := hx116_1; have hw116_0 := hx116_0
        cases e116
        replace hx116_0 := hcell HB.out hx116_0; replace hx116_1 := hcell HB.out hx116_1; replace hx116_2 := hcell HB.out hx116_2; replace hx116_3 := hcell HB.out hx116_3; replace hx116_4 := hcell HB.out hx116_4; replace p116 := eq_true p116; replace q116 := eq_true q116; refine start_ (n := 10) (S := fun w' => w'.cell? ⟨gb113, 0, none⟩ = some (.slice A0_0 l0_0.length c0_0) ∧ w'.cell? ⟨gb113, 1, none⟩ = some (.slice (some ad116) l0_1.length c0_1) ∧ w'.cell? (ad116.add ((x4_2).toNat * 5)) = some (.int .i64 ((rd_T32 l0_1 x4_2).f0)) ∧ w'.cell? ⟨(ad116.add ((x4_2).toNat * 5)).block, (ad116.add ((x4_2).toNat * 5)).off + 1, none⟩ = some (.int .i64 ((rd_T32 l0_1 x4_2).f1)) ∧ w'.cell? ⟨(ad116.add ((x4_2).toNat * 5)).block, (ad116.add ((x4_2).toNat * 5)).off + 2, none⟩ = some (.int .i64 ((rd_T32 l0_1 x4_2).f2)) ∧ w'.cell? ⟨(ad116.add ((x4_2).toNat * 5)).block, (ad116.add ((x4_2).toNat * 5)).off + 3, none⟩ = some (.int .i64 ((rd_T32 l0_1 x4_2).f3.f0)) ∧ w'.cell? ⟨(ad116.add ((x4_2).toNat * 5)).block, (ad116.add ((x4_2).toNat * 5)).off + 4, none⟩ = some (.int .i64 ((rd_T32 l0_1 x4_2).f3.f1))) (ds := []) (bl 10 0) (by kernel_rfl) rfl rfl ⟨(blk_cell BK113.out 0).trans rfl, (blk_cell BK113.out 1).trans rfl, (hcell HB.out hw116_0), (hcell HB.out hw116_1), (hcell HB.out hw116_2), (hcell HB.out hw116_3), (hcell HB.out hw116_4)⟩ (fun hHeld => ?_); refine with_tabW quinariaref02_Right.tab9 quinariaref02_Right.bits9 (fun HT_ HW_ => ?_)
        generalize wr.drew = w15 at BK113 HB hx116_0 hx116_1 hx116_2 hx116_3 hx116_4 hHeld ⊢; refine pu 0 26 10 1 ?_; refine pu 2 28 10 5 ?_; refine pu 5 31 10 37 ?_; refine tk7 1 27 10 39 hHeld ?_; refine pu 3 29 10 47 ?_; refine tk7 4 30 10 63 hHeld ?_; refine tk7 6 32 10 127 hHeld ?_; refine pu 7 33 10 255 ?_; refine one_ (i := 8) (N := some 34) (bl 10 511) rfl rfl (one_of HT_.out (by kernel_rfl)) (by decide) (fun K hK => ?_); refine goes_ Tryz.func43 (by kernel_rfl) rfl #[.agg #[.int .i64 ((rd_T32 l0_1 x4_2).f0), .int .i64 ((rd_T32 l0_1 x4_2).f1), .int .i64 ((rd_T32 l0_1 x4_2).f2), .int .i64 ((rd_T32 l0_1 x4_2).f3.f0), .int .i64 ((rd_T32 l0_1 x4_2).f3.f1)], .int .i64 (l0_0.length : Int)] (by rfl) rfl rfl uM ?_; (with_reducible refine (quinariaref02_stretch.calls ((rd_T32 l0_1 x4_2).f0) ((rd_T32 l0_1 x4_2).f1) ((rd_T32 l0_1 x4_2).f2) ((rd_T32 l0_1 x4_2).f3.f0) ((rd_T32 l0_1 x4_2).f3.f1) (l0_0.length : Int) true _ A12.out).mono ?_); rintro e w16 ⟨rfl, hb⟩; refine ⟨_, rfl, ?_⟩; replace BK113 := Aside0.mk (blk_below BK113.out hb); replace HB := Aside0.mk (below_step HB.out hb); (try clear hb); (try clear hb2); (try clear hk); (try clear hi); refine hK.out _ _ ⟨(blk_cell BK113.out 0).trans rfl, (blk_cell BK113.out 1).trans rfl, (hcell HB.out hw116_0), (hcell HB.out hw116_1), (hcell HB.out hw116_2), (hcell HB.out hw116_3), (hcell HB.out hw116_4)⟩ (fun hHeld => ?_); clear hK K; refine nm ?_; refine pu 9 35 10 1023 ?_; refine done_ (done_of HT_.out (by kernel_rfl)) ?_; try go_wp2
        go_roundg k2
        case measure => have := HK1.out; have := HK2.out; omega
        case rel => exact ⟨(wrap64 (x4_2 + 1)), u0, H', ⟨by have := HK1.out; have := HK2.out; omega⟩, ⟨uK BK113.out⟩, ⟨uB⟩⟩
       ·replace c13 := Bool.eq_false_iff.mpr c13; subst c13; have H1 : (some false) = some r := by rw [if_neg (show ¬ (false = true) by decide)] at H; exact H
        clear H; have H := H1; clear H1; obtain rfl := Option.some.inj H; obtain ⟨hcz17_0, hcz17_1⟩ := cz2 BK113.out; obtain ⟨hfz17_0, hfz17_1⟩ := fz2 BK113.out; (try go_wp2); replace BK113 := Aside0.mk (blk_drew BK113.out); replace HB := Aside0.mk (below_drew1 HB.out); have p116 : 0 ≤ (x4_2 : Int) := of_decide_eq_true (by assumption); have q116 : x4_2 < (l0_1.length : Int) := of_decide_eq_true (by assumption); obtain ⟨ad116, e116, hx116_0, hx116_1, hx116_2, hx116_3, hx116_4⟩ := at_T32 HR0_1.out x4_2 p116 q116; have hw116_4 := hx116_4; have hw116_3 := hx116_3; have hw116_2 := hx116_2; have hw116_1 := hx116_1; have hw116_0 := hx116_0
        cases e116
        replace hx116_0 := hcell HB.out hx116_0; replace hx116_1 := hcell HB.out hx116_1; replace hx116_2 := hcell HB.out hx116_2; replace hx116_3 := hcell HB.out hx116_3; replace hx116_4 := hcell HB.out hx116_4; replace p116 := eq_true p116; replace q116 := eq_true q116; refine start_ (n := 10) (S := fun w' => w'.cell? ⟨gb113, 0, none⟩ = some (.slice A0_0 l0_0.length c0_0) ∧ w'.cell? ⟨gb113, 1, none⟩ = some (.slice (some ad116) l0_1.length c0_1) ∧ w'.cell? (ad116.add ((x4_2).toNat * 5)) = some (.int .i64 ((rd_T32 l0_1 x4_2).f0)) ∧ w'.cell? ⟨(ad116.add ((x4_2).toNat * 5)).block, (ad116.add ((x4_2).toNat * 5)).off + 1, none⟩ = some (.int .i64 ((rd_T32 l0_1 x4_2).f1)) ∧ w'.cell? ⟨(ad116.add ((x4_2).toNat * 5)).block, (ad116.add ((x4_2).toNat * 5)).off + 2, none⟩ = some (.int .i64 ((rd_T32 l0_1 x4_2).f2)) ∧ w'.cell? ⟨(ad116.add ((x4_2).toNat * 5)).block, (ad116.add ((x4_2).toNat * 5)).off + 3, none⟩ = some (.int .i64 ((rd_T32 l0_1 x4_2).f3.f0)) ∧ w'.cell? ⟨(ad116.add ((x4_2).toNat * 5)).block, (ad116.add ((x4_2).toNat * 5)).off + 4, none⟩ = some (.int .i64 ((rd_T32 l0_1 x4_2).f3.f1))) (ds := []) (bl 10 0) (by kernel_rfl) rfl rfl ⟨(blk_cell BK113.out 0).trans rfl, (blk_cell BK113.out 1).trans rfl, (hcell HB.out hw116_0), (hcell HB.out hw116_1), (hcell HB.out hw116_2), (hcell HB.out hw116_3), (hcell HB.out hw116_4)⟩ (fun hHeld => ?_); refine with_tabW quinariaref02_Right.tab9 quinariaref02_Right.bits9 (fun HT_ HW_ => ?_)
        generalize wr.drew = w18 at BK113 HB hx116_0 hx116_1 hx116_2 hx116_3 hx116_4 hHeld ⊢; refine pu 0 26 10 1 ?_; refine pu 2 28 10 5 ?_; refine pu 5 31 10 37 ?_; refine tk7 1 27 10 39 hHeld ?_; refine pu 3 29 10 47 ?_; refine tk7 4 30 10 63 hHeld ?_; refine tk7 6 32 10 127 hHeld ?_; refine pu 7 33 10 255 ?_; refine one_ (i := 8) (N := some 34) (bl 10 511) rfl rfl (one_of HT_.out (by kernel_rfl)) (by decide) (fun K hK => ?_); refine goes_ Tryz.func43 (by kernel_rfl) rfl #[.agg #[.int .i64 ((rd_T32 l0_1 x4_2).f0), .int .i64 ((rd_T32 l0_1 x4_2).f1), .int .i64 ((rd_T32 l0_1 x4_2).f2), .int .i64 ((rd_T32 l0_1 x4_2).f3.f0), .int .i64 ((rd_T32 l0_1 x4_2).f3.f1)], .int .i64 (l0_0.length : Int)] (by rfl) rfl rfl uM ?_; (with_reducible refine (quinariaref02_stretch.calls ((rd_T32 l0_1 x4_2).f0) ((rd_T32 l0_1 x4_2).f1) ((rd_T32 l0_1 x4_2).f2) ((rd_T32 l0_1 x4_2).f3.f0) ((rd_T32 l0_1 x4_2).f3.f1) (l0_0.length : Int) false _ A12.out).mono ?_); rintro e w19 ⟨rfl, hb⟩; refine ⟨_, rfl, ?_⟩; replace BK113 := Aside0.mk (blk_below BK113.out hb); replace HB := Aside0.mk (below_step HB.out hb); (try clear hb); (try clear hb2); (try clear hk); (try clear hi); refine hK.out _ _ ⟨(blk_cell BK113.out 0).trans rfl, (blk_cell BK113.out 1).trans rfl, (hcell HB.out hw116_0), (hcell HB.out hw116_1), (hcell HB.out hw116_2), (hcell HB.out hw116_3), (hcell HB.out hw116_4)⟩ (fun hHeld => ?_); clear hK K; refine nm ?_; refine pu 9 35 10 1023 ?_; refine done_ (done_of HT_.out (by kernel_rfl)) ?_; (try go_wp2); go_ret; exact ⟨uE, uB⟩
      ·rw [if_neg c10] at H; replace c10 := decide_eq_false c10; replace H := Option.bind_eq_some_iff.mp H; obtain ⟨t118, A200, H⟩ := H; replace H : (if t118 = true then ((quinariaref02_in.f (l0_1.length : Int) 1 8).bind fun t119 => (some t119)) else (some false)) = some r := H; have A20 := Aside0.mk A200; clear A200
       by_cases c21 : t118 = true
       ·subst c21; have H1 : ((quinariaref02_in.f (l0_1.length : Int) 1 8).bind fun t119 => (some t119)) = some r := by rw [if_pos rfl] at H; exact H
        clear H; have H := H1; clear H1; replace H := Option.bind_eq_some_iff.mp H; obtain ⟨t119, A220, H⟩ := H; replace H : (some t119) = some r := H; have A22 := Aside0.mk A220; clear A220; obtain rfl := Option.some.inj H; obtain ⟨hcz23_0, hcz23_1⟩ := cz2 BK113.out; obtain ⟨hfz23_0, hfz23_1⟩ := fz2 BK113.out
        go_wp2_with (first | ((with_reducible refine gate_callee (f := 42) rfl ?_); refine goesL_ (some 39) rfl rfl Tryz.func42 (by kernel_rfl) rfl #[.int .i64 (l0_0.length : Int), .int .i64 1, .int .i64 10] rfl uM ?_; (with_reducible refine (quinariaref02_in.calls (l0_0.length : Int) 1 10 true _ A20.out).mono ?_); rintro e w' ⟨rfl, ⟨nd, rfl⟩⟩; refine ⟨_, rfl, ?_⟩) | (go_at_call 42; (with_reducible refine (quinariaref02_in.calls (l0_1.length : Int) 1 8 t119 _ A22.out).mono ?_); rintro e w' ⟨rfl, ⟨nd, rfl⟩⟩))
        go_ret; exact ⟨uE, uB⟩
       ·replace c21 := Bool.eq_false_iff.mpr c21; subst c21; have H1 : (some false) = some r := by rw [if_neg (show ¬ (false = true) by decide)] at H; exact H
        clear H; have H := H1; clear H1; obtain rfl := Option.some.inj H; obtain ⟨hcz24_0, hcz24_1⟩ := cz2 BK113.out; obtain ⟨hfz24_0, hfz24_1⟩ := fz2 BK113.out
        go_wp2_with (first | ((with_reducible refine gate_callee (f := 42) rfl ?_); refine goesL_ (some 39) rfl rfl Tryz.func42 (by kernel_rfl) rfl #[.int .i64 (l0_0.length : Int), .int .i64 1, .int .i64 10] rfl uM ?_; (with_reducible refine (quinariaref02_in.calls (l0_0.length : Int) 1 10 false _ A20.out).mono ?_); rintro e w' ⟨rfl, ⟨nd, rfl⟩⟩; refine ⟨_, rfl, ?_⟩))
        go_ret; exact ⟨uE, uB⟩
end Go.Proofs.YtdmdahafiiggiaaGreatDoor.K
end
section
namespace Go.Proofs.YtdmdahafiiggiaaGreatDoor.K
open Go.RowKit Go.Proofs.YtdmdahafiiggiaaGreatDoorW.PrintWords Go.Proofs.YtdmdahafiiggiaaGreatDoorW.PrintLast Go.Proofs.YtdmdahafiiggiaaGreatDoorW.PrintMore
attribute [local go_sem] max2_int min2_int max_two min_two max_three min_three max_four min_four
def quinariaref02_Number.f (l0_0 : List Int) (l0_1 : List (S32)) (a1 : Int) : Option (Bool) := (quinariaref02_in.f a1 0 (wrap64 ((l0_1.length : Int) - 1))).bind fun t121 => (some t121)
set_option maxHeartbeats 8000000 in
set_option maxRecDepth 100000 in
theorem quinariaref02_Number.calls (A0_0 : Option Addr) (c0_0 : Nat) (l0_0 : List Int) (A0_1 : Option Addr) (c0_1 : Nat) (l0_1 : List (S32)) (a1 : Int) (r : Bool) (w : World) (hr0_0 : Kd.C (Kd.int .i64) w A0_0 l0_0.length l0_0) (hc0_0 : l0_0.length ≤ c0_0) (hr0_1 : Kd.C k32 w A0_1 l0_1.length l0_1) (hc0_1 : l0_1.length ≤ c0_1) (h : quinariaref02_Number.f l0_0 l0_1 a1 = some r) :
  Calls Tryz.prog 15 #[.agg #[.slice A0_0 l0_0.length c0_0, .slice A0_1 l0_1.length c0_1], .int .i64 a1] w fun e w' => e = .returned (.bool r) ∧ Below w.heap.size w w' := by
 have hu25 := Tryz.underlying25; have HR0_0 := Aside0.mk hr0_0; have HC0_0 := Aside0.mk hc0_0; clear hr0_0 hc0_0; have HR0_1 := Aside0.mk hr0_1; have HC0_1 := Aside0.mk hc0_1; clear hr0_1 hc0_1; have HB := Aside0.mk (Below.refl w.heap.size w); have H : ((quinariaref02_in.f a1 0 (wrap64 ((l0_1.length : Int) - 1))).bind fun t121 => (some t121)) = some r := h; clear h; replace H := Option.bind_eq_some_iff.mp H; obtain ⟨t121, A30, H⟩ := H; replace H : (some t121) = some r := H; have A3 := Aside0.mk A30; clear A30; obtain rfl := Option.some.inj H
 go_enter Tryz.func15, Tryz.ntmps15
 go_wp2_with (first | ((with_reducible refine gate_dst (N := 2) rfl ?_); refine bxe 2 #[.slice A0_0 l0_0.length c0_0, .slice A0_1 l0_1.length c0_1] 25 ?_; intro gb120 hg w4 hbox hb; have n0_ := Aside0.mk (below_step uB hb); have n1_ := Aside0.mk (hbox); have n2_ := gw hg; have n3_ := gw hg; clear HB; have HB := n0_; have BK120 := n1_; have GW120 := n2_; have GE120 := n3_; clear n0_ n1_ n2_ n3_; clear hb hbox hg; obtain ⟨hcz5_0, hcz5_1⟩ := cz2 BK120.out; obtain ⟨hfz5_0, hfz5_1⟩ := fz2 BK120.out) | ((with_reducible refine gate_callee (f := 42) rfl ?_); refine goesL_ (some 10) rfl rfl Tryz.func42 (by kernel_rfl) rfl #[.int .i64 a1, .int .i64 0, .int .i64 (wrap64 ((l0_1.length : Int) - 1))] rfl uM ?_; (with_reducible refine (quinariaref02_in.calls a1 0 (wrap64 ((l0_1.length : Int) - 1)) t121 _ A3.out).mono ?_); rintro e w' ⟨rfl, ⟨nd, rfl⟩⟩; refine ⟨_, rfl, ?_⟩))
 go_ret; exact ⟨uE, uB⟩
end Go.Proofs.YtdmdahafiiggiaaGreatDoor.K
end
section
namespace Go.Proofs.YtdmdahafiiggiaaGreatDoor.K
open Go.RowKit Go.Proofs.YtdmdahafiiggiaaGreatDoorW.PrintWords Go.Proofs.YtdmdahafiiggiaaGreatDoorW.PrintLast Go.Proofs.YtdmdahafiiggiaaGreatDoorW.PrintMore
def PredB {α : Type} (g : Nat) (lb : Array Value) (enc : α → Value) (p : α → Bool) (w : World) : Prop :=
  ∀ (W : World) (x : α), Below w.heap.size w W → Calls Tryz.prog g (#[enc x] ++ lb) W fun e w' => e = .returned (.bool (p x)) ∧ Below W.heap.size W w'
theorem bcell {W w1 : World} (hb : Below W.heap.size W w1) : (∀ b o, b < W.heap.size → w1.cell? ⟨b, o, none⟩ = W.cell? ⟨b, o, none⟩) ∧ (∀ b o, b < W.heap.size → w1.frozen? ⟨b, o, none⟩ = W.frozen? ⟨b, o, none⟩) :=
  ⟨fun b o h => hb.cell (p := ⟨b, o, none⟩) h, fun b o h => hb.frozen (p := ⟨b, o, none⟩) h⟩
theorem any_take_succ {α : Type} (p : α → Bool) (d : α) (l : List α) (k : Nat) (h : (l.take k).any p = false) (hp : p (l.getD k d) = false) : (l.take (k + 1)).any p = false := by
  rw [List.take_add_one, List.any_append, h, Bool.false_or]
  cases hk : l[k]? with
  | none => rfl
  | some x =>
    have : l.getD k d = x := by simp [List.getD, hk]
    rw [this] at hp; simp [hp]
theorem any_of_at {α : Type} (p : α → Bool) (d : α) (l : List α) (k : Nat) (hk : k < l.length) (hp : p (l.getD k d) = true) : l.any p = true := by
  rw [List.any_eq_true]; refine ⟨l.getD k d, ?_, hp⟩; rw [List.getD_eq_getElem?_getD, List.getElem?_eq_getElem hk]; exact List.getElem_mem hk
theorem any_whole {α : Type} (p : α → Bool) (l : List α) (k : Nat) (hk : l.length ≤ k) (h : (l.take k).any p = false) : l.any p = false := by rwa [List.take_of_length_le hk] at h
structure After (w : World) where
  W : World
  hb : Below w.heap.size w W
instance {w : World} : Nonempty (After w) := ⟨⟨w, Below.refl _ _⟩⟩
def clsA (w : World) : World → Prop := fun W => ∃ X : After w, W = X.W
theorem After.cell {w : World} (X : After w) {b o : Nat} {v : Value} (h : w.cell? ⟨b, o, none⟩ = some v) : X.W.cell? ⟨b, o, none⟩ = some v := (X.hb.cell (p := ⟨b, o, none⟩) (World.block_lt_of_cell? w _ h)).trans h
theorem After.cell' {w : World} (X : After w) {a : Addr} {v : Value} (h : w.cell? a = some v) : X.W.cell? a = some v := (X.hb.cell (World.block_lt_of_cell? w _ h)).trans h
theorem Calls.after {P : Program} {f : FuncId} {args : Array Value} {w : World} {X : After w} {v : Value} (h : Calls P f args X.W fun e w' => e = .returned v ∧ Below X.W.heap.size X.W w') :
    Calls P f args X.W fun e w' => e = .returned v ∧ ∃ Y : After w, w' = Y.W := h.mono fun e w' ⟨he, hb⟩ => ⟨he, ⟨w', below_step X.hb hb⟩, rfl⟩
theorem Calls.after_same {P : Program} {f : FuncId} {args : Array Value} {w : World} {X : After w} {v : Value} (h : Calls P f args X.W fun e w' => e = .returned v ∧ X.W = w') :
    Calls P f args X.W fun e w' => e = .returned v ∧ ∃ Y : After w, w' = Y.W := h.mono fun e w' ⟨he, hb⟩ => ⟨he, X, hb.symm⟩
theorem wp_region_after {P : Program} {id : Nat} {Q : Exit → Act → World → Prop} {a : Act} {w : World} {l : List Oper} (hm : P.follows .mixedOrders = true) (hB : Region.lexB .any l.toArray = true)
    (h : wpQuiet P l.toArray (clsA w) (fun a' => ∀ X : After w, Q .normal a' X.W) l a) : (Code.region id l.toArray true).wp P Q a w :=
  wp_region_quiet (C := clsA w) hm hB ⟨⟨_, (below_drew1 (Below.refl w.heap.size w))⟩, rfl⟩ (by
    simp only []
    have : (fun a' => ∀ w', clsA w w' → Q .normal a' w') = (fun a' => ∀ X : After w, Q .normal a' X.W) := by
      funext a'
      exact propext ⟨fun h X => h _ ⟨X, rfl⟩, fun h w' ⟨X, hX⟩ => hX ▸ h X⟩
    rw [this]
    exact h)
end Go.Proofs.YtdmdahafiiggiaaGreatDoor.K
end
section
namespace Go.Proofs.YtdmdahafiiggiaaGreatDoor.K
open Go.RowKit Go.Shelf Go.Proofs.YtdmdahafiiggiaaGreatDoorW.PrintWords Go.Proofs.YtdmdahafiiggiaaGreatDoorW.PrintLast Go.Proofs.YtdmdahafiiggiaaGreatDoorW.PrintMore
structure KB (M : Nat → Prop) (W W' : World) : Prop where
  os : W'.os = W.os
  tape : W'.tape = W.tape
  output : W'.output = W.output
  size : W.heap.size ≤ W'.heap.size
  block : ∀ k, k < W.heap.size → ¬ M k → W'.heap[k]? = W.heap[k]?
theorem KB.refl (M : Nat → Prop) (W : World) : KB M W W := ⟨rfl, rfl, rfl, Nat.le_refl _, fun _ _ _ => rfl⟩
theorem KB.trans {M : Nat → Prop} {A B C : World} (h : KB M A B) (k : KB M B C) : KB M A C :=
  ⟨k.os.trans h.os, k.tape.trans h.tape, k.output.trans h.output, Nat.le_trans h.size k.size, fun i hi hm => (k.block i (Nat.lt_of_lt_of_le hi h.size) hm).trans (h.block i hi hm)⟩
theorem KB.mono {M M' : Nat → Prop} {A B : World} (h : KB M A B) (hm : ∀ k, k < A.heap.size → M k → M' k) : KB M' A B := ⟨h.os, h.tape, h.output, h.size, fun k hk hn => h.block k hk (fun hM => hn (hm k hk hM))⟩
theorem KB.of_below {M : Nat → Prop} {A B : World} (h : Below A.heap.size A B) : KB M A B := ⟨h.os, h.tape, h.output, h.size, fun k hk _ => h.block k hk⟩
theorem KB.below {M : Nat → Prop} {A B : World} {n : Nat} (h : KB M A B) (hn : n ≤ A.heap.size) (hm : ∀ k, k < n → ¬ M k) : Below n A B := ⟨h.os, h.tape, h.output, h.size, fun k hk => h.block k (by omega) (hm k hk)⟩
theorem KB.grown {M : Nat → Prop} {A B : World} {row : Option Nat} (h : A.grownBy B row) (hm : ∀ k, row = some k → k < A.heap.size → M k) : KB M A B :=
  ⟨h.os, h.tape, h.output, h.size, fun k hk hn => h.block k hk (fun e => hn (hm k e.symm hk))⟩
theorem KB.alloc {M : Nat → Prop} (A : World) (o : Obj) : KB M A (A.alloc o) := KB.of_below ((Below.refl _ A).alloc (Nat.le_refl _) o)
theorem KB.putObj {M : Nat → Prop} (A : World) (l : Nat) (o : Obj) (hm : l < A.heap.size → M l) : KB M A (A.putObj l o) := KB.grown (grownBy_putObj' A l o) (fun k e hk => by cases e; exact hm hk)
theorem KB.setCell {M : Nat → Prop} (A : World) (p : Addr) (v : Value) (hm : M p.block) : KB M A (A.setCell p v) :=
  ⟨rfl, rfl, rfl, by simp [World.setCell], fun k hk hn => Below.heap_setCell _ _ _ _ (fun e => hn (by rw [e]; exact hm))⟩
theorem KB.at {M : Nat → Prop} {A B : World} {k : Nat} {o : Obj} (h : KB M A B) (hk : A.heap[k]? = some o) (hn : ¬ M k) : B.heap[k]? = some o := (h.block k (blk_lt hk) hn).trans hk
def SeqM {α : Type} (F : Fence) (n : Nat) (P : Program) (g : Nat) (lb : Array Value) (own : Nat) (C : Nat → Prop) (At : Nat → World → α → Array Value → Prop) (xs : List α) (w : World) : Prop :=
  ∀ (l : Nat) (M : Nat → Prop) (J : List α → World → Prop) (W : World), KB (fun k => ¬ C k) w W → (∀ k, C k → k < w.heap.size) → (∀ k, M k → k < W.heap.size ∧ ¬ C k) →
    (∀ pre A A', J pre A → W.heap.size ≤ A.heap.size → KB (fun k => W.heap.size ≤ k ∧ k < W.heap.size + own) A A' → J pre A') →
    (∀ pre x v W1, J pre W1 → W.heap.size + own ≤ W1.heap.size → At (W.heap.size + own) W1 x v → (∃ rest, xs = pre ++ x :: rest) →
      YieldAt F (n - 1) P l v W1 fun e W' => e = .returned (.bool true) ∧ J (pre ++ [x]) W' ∧ KB M W1 W') →
    J [] W →
    CallsIn F n P g (#[.func (.yield l) #[] #[]] ++ lb) W fun e W' => (∃ v, e = .returned v) ∧ J xs W' ∧ KB M W W'
def normP (R : World → Prop) : Exit → Act → World → Prop
  | .normal, _, W' => R W'
  | _, _, _ => False
theorem wpIn_rangeM {α : Type} {F : Fence} {n : Nat} {P : Program} {g : Operand} {ps : Array Tmp} {assign body : Code} {Q : Exit → Act → World → Prop} {a : Act} {w : World}
    (hro : F.round = none) (h1 : 1 ≤ n) {gf : Nat} {lb : Array Value} (hg : a.eval g = .func (.func gf) #[] lb) (hFg : F.fn gf) (eg : ∀ args w, (callFunc gf args).run P w = .ok (.enter gf args) w)
    {own : Nat} {C : Nat → Prop} {At : Nat → World → α → Array Value → Prop} {xs : List α} {w0 : World} (hseq : SeqM F (n - 1) P gf lb own C At xs w0)
    (M : Nat → Prop) (hk0 : KB (fun k => ¬ C k) w0 w) (hC : ∀ k, C k → k < w0.heap.size) (hM : ∀ k, M k → k < w.heap.size ∧ ¬ C k)
    (hps : ∀ B W x v, At B W x v → v.size = ps.size)
    (I : List α → World → Prop) (Mid : List α → α → Act → World → Prop)
    (hI : ∀ pre A A', I pre A → w.heap.size ≤ A.heap.size → KB (fun k => w.heap.size ≤ k ∧ k < w.heap.size + 2 + own) A A' → I pre A')
    (hMid : ∀ pre x a A A', Mid pre x a A → w.heap.size ≤ A.heap.size → KB (fun k => w.heap.size ≤ k ∧ k < w.heap.size + 2 + own) A A' → Mid pre x a A')
    (h0 : I [] w)
    (hassign : ∀ (l : Nat) (pre : List α) (x : α) (v : Array Value) (W : World), I pre W → w.heap.size + 2 + own ≤ W.heap.size → At (w.heap.size + 2 + own) W x v → (∃ rest, xs = pre ++ x :: rest) →
      assign.wpIn (F.inRound l) (n - 1 - 1) P (Exit.then (fun a₁ W₁ => KB M W W₁ ∧ Mid pre x a₁ W₁) (fun _ _ _ => False)) { tmps := (ps.zip v).foldl (fun t (p, v) => t.setIfInBounds p v) a.tmps, defers := [] } W)
    (hbody : ∀ (l : Nat) (pre : List α) (x : α) (a₁ : Act) (W : World), Mid pre x a₁ W → w.heap.size + 2 + own ≤ W.heap.size → (∃ rest, xs = pre ++ x :: rest) → body.wpIn (F.inRound l) (n - 1 - 1) P (normP fun W' => KB M W W' ∧ I (pre ++ [x]) W') a₁ W)
    (hdone : ∀ (W : World), I xs W → KB M w W → W.heap[w.heap.size]? = some (.deferred (some [])) → Q .normal { a with defers := { target := .collected w.heap.size, args := #[] } :: a.defers } W) :
    (Code.rangeFunc g ps assign body).wpIn F n P Q a w := by
  refine wpIn_rangeFunc ?_; intro fn hfn; rw [hro]; obtain ⟨rec, hrec⟩ : ∃ rec : LoopState → Option Code → Loop, rec = fun st pe => { state := st, pending := pe, fn, tmps := a.tmps, params := ps, assign, body, defers := w.heap.size } := ⟨_, rfl⟩; obtain ⟨W1, hW1⟩ : ∃ W1, (w.alloc (.deferred (some []))).alloc (.loop (rec .ready none)) = W1 := ⟨_, rfl⟩
  have hL1 : W1.heap[w.heap.size + 1]? = some (.loop (rec .ready none)) := by
    rw [← hW1]; have := World.alloc_heap_new (w.alloc (.deferred (some []))) (.loop (rec .ready none)); rwa [World.size_alloc] at this
  have hK1 : W1.heap[w.heap.size]? = some (.deferred (some [])) := by
    rw [← hW1]; exact (Below.heap_alloc _ _ _ (by simp)).trans (World.alloc_heap_new w _)
  have hs1 : W1.heap.size = w.heap.size + 2 := by rw [← hW1]; simp
  have hk1 : ∀ N : Nat → Prop, KB N w W1 := fun N => by rw [← hW1]; exact (KB.alloc w _).trans (KB.alloc _ _)
  refine ⟨w.heap.size + 1, [{ target := .collected w.heap.size, args := #[] }], W1, { target := .fn (.func gf) lb, args := #[.func (.yield (w.heap.size + 1)) #[] #[]] }, W1, gf,
    #[.func (.yield (w.heap.size + 1)) #[] #[]] ++ lb, W1, ?_, ?_, ?_, ?_, fun _ => h1, ?_⟩
  · rw [← hW1, hrec]; exact run_enterLoop_outer _ _ _ _ _
  · simp only [resolve, hg]; simp [go_sem]
  · intro f' hf'; simp [Target.leads] at hf'; subst hf'; exact hFg
  · simp [invoke, go_sem, eg]
  · refine (hseq (w.heap.size + 1) (fun k => M k ∨ k = w.heap.size + 1)
      (fun pre W => I pre W ∧ W.heap[w.heap.size + 1]? = some (.loop (rec .ready none)) ∧ W.heap[w.heap.size]? = some (.deferred (some [])) ∧ KB M w W)
      W1 (hk0.trans (hk1 _)) hC
      (fun k hk => by
        rcases hk with hk | rfl
        · exact ⟨by have := (hM k hk).1; omega, (hM k hk).2⟩
        · exact ⟨by omega, fun h => by have := hC _ h; have := hk0.size; omega⟩)
      (fun pre A A' hJ hA hk => by
        have h2 : w.heap.size + 1 < A.heap.size := by omega
        refine ⟨hI pre A A' hJ.1 (by omega) (hk.mono fun k _ h => by omega), hk.at hJ.2.1 (by omega), hk.at hJ.2.2.1 (by omega), ?_⟩; have h3 := hJ.2.2.2
        exact ⟨hk.os.trans h3.os, hk.tape.trans h3.tape, hk.output.trans h3.output, Nat.le_trans h3.size hk.size, fun k hlt hm => (hk.block k (by omega) (by omega)).trans (h3.block k hlt hm)⟩)
      ?_ ⟨by rw [← hW1]; exact hI _ _ _ h0 (Nat.le_refl _) ((KB.alloc w _).trans (KB.alloc _ _)), hL1, hK1, hk1 M⟩).mono ?_
    · rintro pre x v W ⟨hi, hl, hk, hkw⟩ hsz hat hrest; rw [hs1] at hsz hat; have hlt : w.heap.size + 1 < W.heap.size := by omega
      have hy := run_yield (P := P) (args := v) hl (by rw [hrec]; exact hps _ _ _ _ hat); rw [hrec] at hy; refine ⟨fn, _, assign, body, hy, roundIn_of_wpIn hfn (wpIn_mono (hassign (w.heap.size + 1) pre x v W hi hsz hat hrest) ?_)⟩; rintro e a₁ W₁ hp
      cases e with
      | normal =>
        obtain ⟨hka, hmid⟩ := hp; have hl2 : W₁.heap[w.heap.size + 1]? = some (.loop (rec .ready none)) := hka.at hl (fun h => by have := (hM _ h).1; omega); have hk2 : W₁.heap[w.heap.size]? = some (.deferred (some [])) := hka.at hk (fun h => by have := (hM _ h).1; omega); have hsz1 : w.heap.size + 2 + own ≤ W₁.heap.size := Nat.le_trans hsz hka.size; refine ⟨_, run_beginRound hl2 (by rw [hrec]), ?_⟩; have hlB : (W₁.putObj (w.heap.size + 1) (.loop { rec .ready none with state := .busy })).heap[w.heap.size + 1]? = some (.loop { rec .ready none with state := .busy }) := World.putObj_heap_same (by omega); have hkB : (W₁.putObj (w.heap.size + 1) (.loop { rec .ready none with state := .busy })).heap[w.heap.size]? = some (.deferred (some [])) := (World.putObj_heap_other (by omega)).trans hk2; refine wpIn_mono (hbody (w.heap.size + 1) pre x a₁ _ (hMid pre x a₁ _ _ hmid (by omega) (KB.putObj _ _ _ fun _ => ⟨by omega, by omega⟩)) (by simp [World.putObj]; omega) hrest) ?_; rintro e a3 W3 hp3
        cases e with
        | normal =>
          obtain ⟨hk3, hi3⟩ := hp3; have hl3 := hk3.at hlB (fun h => by have := (hM _ h).1; omega); have hD3 := hk3.at hkB (fun h => by have := (hM _ h).1; omega); have hs3 : w.heap.size + 2 + own ≤ W3.heap.size := Nat.le_trans (by simp [World.putObj]; omega) hk3.size; have hr := run_endRound (P := P) none hl3
          have hall : ∀ o, KB (fun k => M k ∨ k = w.heap.size + 1) W (W3.putObj (w.heap.size + 1) o) := fun o =>
            ((hka.mono fun k _ h => .inl h).trans ((KB.putObj _ _ _ fun _ => .inr rfl).trans ((hk3.mono fun k _ h => .inl h).trans (KB.putObj _ _ o fun _ => .inr rfl))))
          refine ⟨_, _, hr, rfl, ⟨hI _ _ _ hi3 (by omega) (KB.putObj _ _ _ fun _ => ⟨by omega, by omega⟩), ?_, (World.putObj_heap_other (by omega)).trans hD3, ?_⟩, ?_⟩
          · rw [World.putObj_heap_same (by omega), hrec]; rfl
          · have ha := hall (.loop { rec .ready none with state := if Option.isNone (none : Option Code) then .ready else .done, pending := none }); exact ⟨ha.os.trans hkw.os, ha.tape.trans hkw.tape, ha.output.trans hkw.output, Nat.le_trans hkw.size ha.size, fun k hlt hm => (ha.block k (by omega) (by intro h; rcases h with h | h; exact hm h; omega)).trans (hkw.block k hlt hm)⟩
          · exact hall _
        | _ => exact hp3.elim
      | _ => exact hp.elim
    · rintro e W2 ⟨⟨v, rfl⟩, ⟨hi, hl, hk, hkw⟩, hkb⟩; have hs2 : w.heap.size + 2 ≤ W2.heap.size := by have := hkb.size; omega
      refine ⟨none, _, by have := run_endLoop (P := P) hl (by rw [hrec]; simp); rw [hrec] at this; exact this, hdone _ (hI _ _ _ hi (by omega) (KB.putObj _ _ _ fun _ => ⟨by omega, by omega⟩)) ?_ ((World.putObj_heap_other (by omega)).trans hk)⟩; have ha : KB (fun k => M k ∨ k = w.heap.size + 1) W2 (W2.putObj (w.heap.size + 1) (.loop { rec .ready none with state := .exhausted })) := KB.putObj _ _ _ fun _ => .inr rfl; rw [hrec] at ha; exact ⟨ha.os.trans hkw.os, ha.tape.trans hkw.tape, ha.output.trans hkw.output, Nat.le_trans hkw.size ha.size, fun k hlt hm => (ha.block k (by omega) (by intro h; rcases h with h | h; exact hm h; omega)).trans (hkw.block k hlt hm)⟩
end Go.Proofs.YtdmdahafiiggiaaGreatDoor.K
end
section
namespace Go.Proofs.YtdmdahafiiggiaaGreatDoor.K
open Go.RowKit Go.Proofs.YtdmdahafiiggiaaGreatDoorW.PrintWords Go.Proofs.YtdmdahafiiggiaaGreatDoorW.PrintLast Go.Proofs.YtdmdahafiiggiaaGreatDoorW.PrintMore
attribute [local go_sem] max2_int min2_int max_two min_two max_three min_three max_four min_four
theorem eqA30 (d : Nat) (w : World) (x0 y0 : Int) (x1 y1 : Int) :
  (Op.equalIn (d + 2) 30 (.agg #[.int .i64 x0, .int .i64 x1]) (.agg #[.int .i64 y0, .int .i64 y1])).run Tryz.prog w = .ok (x0 == y0 && (x1 == y1)) w := by
 refine eqA_of Tryz.underlying30 (by kernel_rfl) ?_; refine eqf_cons (by rfl) (by go_simp; rfl) (by go_simp; rfl) (by go_simp) ?_; exact eqf_last (by rfl) (by go_simp; rfl) (by go_simp; rfl) (by go_simp)
end Go.Proofs.YtdmdahafiiggiaaGreatDoor.K
end
section
namespace Go.Proofs.YtdmdahafiiggiaaGreatDoor.K
open Go.RowKit Go.Proofs.YtdmdahafiiggiaaGreatDoorW.PrintWords Go.Proofs.YtdmdahafiiggiaaGreatDoorW.PrintLast Go.Proofs.YtdmdahafiiggiaaGreatDoorW.PrintMore
def encY (y : Int) : Value := .agg #[.int .i64 y]
theorem eqSlot (d : Nat) (w : World) (x y : Int) : (Op.equalIn (d + 2) 109 (encY x) (encY y)).run Tryz.prog w = .ok (x == y) w := by
  unfold encY; refine eqA_of Tryz.underlying109 (by kernel_rfl) ?_; exact eqf_last (by rfl) (by go_simp; rfl) (by go_simp; rfl) (by go_simp)
def Slots (w : World) (b : Nat) (T : List Int) : Prop := ∃ es clock, w.heap[b]? = some (.map es clock) ∧ es.toList.map (·.key) = T.map encY ∧ ∀ e ∈ es.toList, e.val = .agg #[]
theorem Slots.below {w w1 : World} {b : Nat} {T : List Int} (h : Slots w b T) (hb : Below w.heap.size w w1) : Slots w1 b T := by
  obtain ⟨es, c, h1, h2, h3⟩ := h; exact ⟨es, c, blk_below h1 hb, h2, h3⟩
theorem Slots.lt {w : World} {b : Nat} {T : List Int} (h : Slots w b T) : b < w.heap.size := by
  obtain ⟨es, c, h1, _⟩ := h; exact blk_lt h1
def setMap (w : World) (b : Nat) (o : Obj) : World := { w with heap := w.heap.setIfInBounds b o }
theorem setMap_same {w : World} {b : Nat} {o : Obj} (h : b < w.heap.size) : (setMap w b o).heap[b]? = some o := by simp [setMap, h]
theorem setMap_other {w : World} {b k : Nat} {o : Obj} (h : k ≠ b) : (setMap w b o).heap[k]? = w.heap[k]? := by simp [setMap, Array.getElem?_setIfInBounds, Ne.symm h]
theorem setMap_size (w : World) (b : Nat) (o : Obj) : (setMap w b o).heap.size = w.heap.size := by simp [setMap]
theorem setMap_below {B : Nat} {w : World} {b : Nat} {o : Obj} (h : B ≤ b) : Below B w (setMap w b o) := ⟨rfl, rfl, rfl, by rw [setMap_size]; exact Nat.le_refl _, fun k hk => setMap_other (by omega)⟩
theorem setMap_grown (w : World) (b : Nat) (o : Obj) : w.grownBy (setMap w b o) (some b) := ⟨rfl, rfl, rfl, by rw [setMap_size]; exact Nat.le_refl _, fun k hk hne => setMap_other (by simpa using hne)⟩
theorem map_erase {α β : Type} (f : α → β) : ∀ (l : List α) (i : Nat), (l.eraseIdx i).map f = (l.map f).eraseIdx i
  | [], _ => rfl
  | _ :: _, 0 => rfl
  | a :: l, i + 1 => by simp [map_erase f l i]
def findT (y : Int) : List Int → Nat → Option Nat
  | [], _ => none
  | x :: T, i => if y == x then some i else findT y T (i + 1)
theorem findAsking_run (w : World) (y : Int) : ∀ (es : List MapEntry) (T : List Int) (i : Nat), es.map (·.key) = T.map encY → (∀ e ∈ es, e.val = .agg #[]) →
    (Instr.findAsking 109 (encY y) es i).run Tryz.prog w = .ok ((findT y T i).map fun j => (j, .agg #[])) w
  | [], [], i, _, _ => rfl
  | [], x :: T, i, h, _ => by cases h
  | e :: es, [], i, h, _ => by cases h
  | e :: es, x :: T, i, h, hv => by
    simp only [List.map_cons, List.cons.injEq] at h; unfold Instr.findAsking findT; have he := eqSlot 9998 w y x; simp only [Sem.run_bind, Op.equal, Op.maxDepth, h.1, he, Result.andThen_ok]
    cases hq : y == x with
    | true => simp [hv e (List.mem_cons_self ..)]
    | false => exact findAsking_run w y es T (i + 1) h.2 (fun e' he' => hv e' (List.mem_cons_of_mem _ he'))
theorem findT_none {y : Int} : ∀ {T : List Int} {i : Nat}, y ∉ T → findT y T i = none
  | [], _, _ => rfl
  | x :: T, i, h => by
    unfold findT; rw [if_neg (by simp; intro e; exact h (e ▸ List.mem_cons_self ..))]; exact findT_none (fun hm => h (List.mem_cons_of_mem _ hm))
theorem findT_some {y : Int} : ∀ {T : List Int} {i : Nat}, y ∈ T → ∃ j, findT y T i = some j
  | x :: T, i, h => by
    unfold findT
    by_cases e : y == x
    · exact ⟨i, if_pos e⟩
    · rw [if_neg e]; exact findT_some ((List.mem_cons.1 h).resolve_left (by simpa using e))
theorem findT_last {y : Int} : ∀ {T : List Int} {i : Nat}, y ∉ T → findT y (T ++ [y]) i = some (i + T.length)
  | [], i, _ => by simp [findT]
  | x :: T, i, h => by
    simp only [List.cons_append]; unfold findT; rw [if_neg (by simp; intro e; exact h (e ▸ List.mem_cons_self ..)), findT_last (fun hm => h (List.mem_cons_of_mem _ hm))]; simp; omega
theorem checkKey_slot (w : World) (b : Bool) (y : Int) : (Instr.checkKey b 10000 109 (encY y)).run Tryz.prog w = .ok () w := by
  cases b <;> kernel_rfl
theorem findNow_slot (u : TypeDesc) (hu : Tryz.prog.underlying 109 = some u) (k : Value) : ∀ (es : List MapEntry), es ≠ [] → Instr.findNow u k es 0 = none
  | e :: es, _ => by
    rw [Tryz.underlying109] at hu; obtain rfl := Option.some.inj hu; simp [Instr.findNow, Instr.sameNow]
theorem findKey_run (w : World) (y : Int) (es : List MapEntry) (T : List Int) (h : es.map (·.key) = T.map encY) (hv : ∀ e ∈ es, e.val = .agg #[]) :
    (Instr.findKey 109 (encY y) es).run Tryz.prog w = .ok ((findT y T 0).map fun j => (j, .agg #[])) w := by
  unfold Instr.findKey; simp only [Sem.run_bind, run_underlying Tryz.underlying109, Result.andThen_ok]
  cases es with
  | nil =>
    cases T with
    | nil => rfl
    | cons x T => cases h
  | cons e es =>
    rw [findNow_slot _ Tryz.underlying109 _ _ (by simp)]; exact findAsking_run w y (e :: es) T 0 h hv
theorem lookup_slot {w : World} {b : Nat} {T : List Int} (h : Slots w b T) (y : Int) :
    (Instr.lookup 103 (.map (some b)) (.agg #[.int .i64 y]) true).run Tryz.prog w = .ok (.tuple #[.agg #[], .bool (decide (y ∈ T))]) w := by
  obtain ⟨es, c, h1, h2, h3⟩ := h; have hk := fun e => checkKey_slot w e y; have hf := findKey_run w y es.toList T h2 h3; unfold encY at hk hf; have hz : (zeroValue 106).run Tryz.prog w = .ok (.agg #[]) w := by kernel_rfl
  unfold Instr.lookup; simp only [Sem.run_bind, run_underlying Tryz.underlying103, Result.andThen_ok, getObj, Sem.run, h1, hk, hf, Sem.run_pure]
  by_cases hm : y ∈ T
  · obtain ⟨j, hj⟩ := findT_some (i := 0) hm; rw [hj]; simp [hm]
  · rw [findT_none hm]; simp [hm, hz]
theorem update_slot {w : World} {b : Nat} {T : List Int} (h : Slots w b T) (y : Int) (hy : y ∉ T) :
    ∃ o, (Instr.mapUpdate 103 (.map (some b)) (.agg #[.int .i64 y]) (.agg #[])).run Tryz.prog w = .ok () (setMap w b o) ∧ Slots (setMap w b o) b (T ++ [y]) := by
  obtain ⟨es, c, h1, h2, h3⟩ := h; have hk := fun e => checkKey_slot w e y; have hf := findKey_run w y es.toList T h2 h3; rw [findT_none hy] at hf; unfold encY at hk hf; refine ⟨Obj.map (es.push { key := .agg #[.int .i64 y], val := .agg #[], born := c }) (c + 1), ?_, ?_⟩
  · unfold Instr.mapUpdate; simp only [Sem.run_bind, run_underlying Tryz.underlying103, Result.andThen_ok, getObj, Sem.run, h1, hk, hf, Sem.run_pure]; simp [setObj, Sem.run, h1, setMap]
  · refine ⟨_, _, setMap_same (blk_lt h1), ?_, ?_⟩
    · simp [h2, encY]
    · intro e he; simp at he
      rcases he with he | rfl
      · exact h3 e (by simpa using he)
      · rfl
theorem delete_slot {w : World} {b : Nat} {T : List Int} (y : Int) (h : Slots w b (T ++ [y])) (hy : y ∉ T) (ty : TypeId) :
    ∃ o, (Builtin.delete_ #[103, 109] ty #[.map (some b), .agg #[.int .i64 y]]).run Tryz.prog w = .ok (.tuple #[]) (setMap w b o) ∧ Slots (setMap w b o) b T := by
  obtain ⟨es, c, h1, h2, h3⟩ := h; have hk := fun e => checkKey_slot w e y; have hf := findKey_run w y es.toList (T ++ [y]) h2 h3; rw [findT_last hy] at hf; unfold encY at hk hf; refine ⟨Obj.map (es.eraseIdxIfInBounds (0 + T.length)) c, ?_, ?_⟩
  · unfold Builtin.delete_; simp only [List.getElem?_toArray, List.getElem?_cons_zero, List.getElem?_cons_succ, Sem.run_bind, run_underlying Tryz.underlying103, Result.andThen_ok, getObj, Sem.run, h1, hk, hf, Sem.run_pure]; simp [setObj, Sem.run, h1, setMap]
  · have hl : es.toList.length = T.length + 1 := by have := congrArg List.length h2; simpa using this
    have e1 : (es.eraseIdxIfInBounds (0 + T.length)).toList = es.toList.eraseIdx T.length := by
      simp [Array.eraseIdxIfInBounds, show T.length < es.size by simpa using (by omega : T.length < es.toList.length)]
    refine ⟨_, _, setMap_same (blk_lt h1), ?_, ?_⟩
    · rw [e1, map_erase, h2, List.map_append, List.map_cons, List.map_nil, List.eraseIdx_append_of_length_le (by simp)]; simp
    · intro e he; rw [e1] at he; exact h3 e (List.mem_of_mem_eraseIdx he)
end Go.Proofs.YtdmdahafiiggiaaGreatDoor.K
end
section
namespace Go.Proofs.YtdmdahafiiggiaaGreatDoor.K
open Go.RowKit Go.Proofs.YtdmdahafiiggiaaGreatDoorW.PrintWords Go.Proofs.YtdmdahafiiggiaaGreatDoorW.PrintLast Go.Proofs.YtdmdahafiiggiaaGreatDoorW.PrintMore
theorem own_empty (W : World) (e : TypeId) : Kd.R (Kd.int .i64) e (W.alloc (.cells #[] e)) W.heap.size (fun _ => True) (.slice (some ⟨W.heap.size, 0, none⟩) 0 0) [] := by
  refine ⟨fun _ _ => trivial, [], ?_, Reps.none _ _⟩; exact World.ownsRow_lit W #[] 0 (Nat.le_refl _) (by unfold maxLen; omega) rfl
set_option maxRecDepth 100000 in
theorem clone_any (A : Option Addr) (c : Nat) (zs : List Int) (w : World) (hC : Kd.C (Kd.int .i64) w A zs.length zs) (hl : zs.length ≤ 1000000) :
    Calls Tryz.prog 72 #[.slice A zs.length c] w fun e w' => ∃ v, e = .returned v ∧ Aside0 (Kd.R (Kd.int .i64) 3 w' w.heap.size (fun _ => True) v zs) ∧ Below w.heap.size w w' := by
  have hnil := fun W => Lib.run_eql_slice_nil (P := Tryz.prog) W 22 3 A zs.length c 0 0 Tryz.underlying22; have HC := Aside0.mk hC; clear hC
  cases A with
  | none =>
    go_enter Tryz.func72, Tryz.ntmps72
    go_wp2; go_ret
    have hz : zs = [] := by
      rcases zs with _ | ⟨x, l⟩
      · rfl
      · obtain ⟨ad, h, _⟩ := Kd.at_int HC.out 0 (by omega) (by simp)
        cases h
    exact ⟨_, rfl, ⟨by rw [hz]; exact Kd.R_nil _ _ _ _ _⟩, Below.refl _ _⟩
  | some a =>
    go_enter Tryz.func72, Tryz.ntmps72
    have HW : Aside0 (Below w.heap.size w (w.alloc (.cells #[] 3))) := ⟨(Below.refl _ _).alloc (Nat.le_refl _) _⟩; have HL := Aside0.mk hl; clear hl
    go_wp2_with ((with_reducible refine gate_builtin (b := .append) (xs := #[.tmp 5, .tmp 6]) rfl ?_); at_builtin; refine Kd.R_append_rows (Kd.int .i64) (w0 := w.alloc (.cells #[] 3)) w.heap.size rfl (.tmp 5) (.tmp 6) 22 3 (.int .i64 0) 8 rfl Tryz.underlying22 info3 rfl (by decide) (by omega) (.slice (some ⟨w.heap.size, 0, none⟩) 0 0) [] zs (some a) zs.length c (fun _ => True) (fun _ => False) rfl rfl (own_empty w 3) (Kd.C_below HC.out HW.out) (fun x cs h => h) (fun _ hk => hk.elim) (fun _ _ => trivial) (Below.refl _ _) (by simp) (by have := HL.out; simp; omega) ?_; intro v1 w1 ho hbA hgA hatA)
    go_ret; exact ⟨_, rfl, ⟨ho⟩, HW.out.trans hbA⟩
theorem idxFirst (A : Option Addr) (c : Nat) (l : List Int) (g : Nat) (lb : Array Value) (p : Int → Bool) (w : World) (hr : Kd.C (Kd.int .i64) w A l.length l) (hl : l.length ≤ 9223372036854775807)
    (eg : ∀ args w, (callFunc g args).run Tryz.prog w = .ok (.enter g args) w) (hp : PredB g lb (Value.int .i64) p w) :
    Calls Tryz.prog 106 #[.slice A l.length c, .func (.func g) #[] lb] w fun e w' => ∃ i : Int, e = .returned (.int .i64 i) ∧ Aside0 ((i = -1 ∧ l.any p = false) ∨ ∃ k : Nat, i = (k : Int) ∧ k < l.length ∧ (l.take k).any p = false ∧ p (rd l k) = true) ∧ Below w.heap.size w w' := by
  have HR := Aside0.mk hr; clear hr
  go_enter Tryz.func106, Tryz.ntmps106
  go_wp2
  go_loopg [5, 8] l.length (fun gg _ s8 wr => ∃ kk : Nat, kk ≤ l.length ∧ l.length - kk ≤ gg ∧ s8 = .int .i64 kk ∧ Aside0 (Below w.heap.size w wr) ∧ Aside0 ((l.take kk).any p = false))
  case atStart => exact ⟨0, Nat.zero_le _, by omega, rfl, ⟨Below.refl _ w⟩, ⟨by simp⟩⟩
  case round =>
    obtain ⟨kk, hkk, hg, rfl, BW, AA⟩ := hrel
    by_cases hlt : kk < l.length
    · have hltz : (kk : Int) < (l.length : Int) := by omega
      obtain ⟨ad, e1, hx0⟩ := Kd.at_int HR.out (kk : Int) (by omega) hltz
      cases e1
      replace hx0 := (BW.out.cell (World.block_lt_of_cell? w _ hx0)).trans hx0; rw [Int.toNat_natCast] at hx0; have hcall := hp wr (rd l kk) BW.out; generalize hy : rd l kk = y at hx0 hcall; have HY := Aside0.mk hy; clear hy hp
      cases hq : p y with
      | true =>
        rw [hq] at hcall; have HQ := Aside0.mk hq; clear hq
        go_wp2_with fail
        refine hcall.mono ?_; rintro e w' ⟨rfl, hb'⟩; replace hb' := below_then BW.out BW.out.size hb'; go_wp2; go_ret; exact ⟨_, rfl, ⟨.inr ⟨kk, rfl, hlt, AA.out, by rw [HY.out]; exact HQ.out⟩⟩, hb'⟩
      | false =>
        rw [hq] at hcall; have HQ := Aside0.mk hq; clear hq
        go_wp2_with fail
        refine hcall.mono ?_; rintro e w' ⟨rfl, hb'⟩; replace hb' := below_then BW.out BW.out.size hb'; go_wp2
        go_roundg (l.length - (kk + 1))
        case measure => omega
        case rel => exact ⟨kk + 1, by omega, by omega, by go_num, ⟨hb'⟩, ⟨any_take_succ p 0 l kk AA.out (by have := HY.out; simp only [rd, Int.toNat_natCast] at this; rw [this]; exact HQ.out)⟩⟩
    · have hltz : ¬ (kk : Int) < (l.length : Int) := by omega
      go_wp2; go_ret; exact ⟨_, rfl, ⟨.inl ⟨rfl, by simpa using any_whole p l kk (by omega) AA.out⟩⟩, BW.out⟩
theorem own_form {w : World} {base : Nat} {v : Value} {xs : List Int} (h : Kd.R (Kd.int .i64) 3 w base (fun _ => True) v xs) (h0 : 0 < xs.length) : ∃ g c, v = .slice (some ⟨g, 0, none⟩) xs.length c ∧ base ≤ g ∧ g < w.heap.size ∧ xs.length ≤ c := by
  have ho := Kd.own_of_R h; obtain ⟨g, c, e, hb, hg⟩ := ho.form h0; obtain ⟨A, c', e', hc, _⟩ := Kd.R_reads h; subst e
  cases e'
  exact ⟨g, c, rfl, hb, hg, hc⟩
def delL (p : Int → Bool) (zs : List Int) (j : Nat) : List Int := (zs.take j).filter fun x => !p x
theorem delL_succ (p : Int → Bool) (zs : List Int) {j : Nat} (hj : j < zs.length) : delL p zs (j + 1) = delL p zs j ++ (if p (rd zs j) = true then [] else [rd zs j]) := by
  unfold delL; rw [List.take_add_one, List.filter_append, List.getElem?_eq_getElem hj]; have : rd zs (j : Int) = zs[j] := by simp [rd, List.getD, List.getElem?_eq_getElem hj]
  rw [this]
  cases hp : p zs[j] <;> simp [hp]
theorem delL_len (p : Int → Bool) (zs : List Int) (j : Nat) : (delL p zs j).length ≤ j := by
  unfold delL; exact Nat.le_trans (List.length_filter_le _ _) (List.length_take_le _ _)
def Mid (p : Int → Bool) (zs L : List Int) (j : Nat) : Prop := L.length = zs.length ∧ L.take (delL p zs j).length = delL p zs j ∧ L.drop j = zs.drop j
theorem Mid.keep {p : Int → Bool} {zs L : List Int} {j : Nat} (h : Mid p zs L j) (hj : j < zs.length) (hp : p (rd zs j) = true) : Mid p zs L (j + 1) := by
  obtain ⟨h1, h2, h3⟩ := h; have e : delL p zs (j + 1) = delL p zs j := by rw [delL_succ p zs hj, if_pos hp, List.append_nil]
  refine ⟨h1, by rw [e]; exact h2, ?_⟩; have := congrArg (List.drop 1) h3
  rwa [List.drop_drop, List.drop_drop] at this
theorem Mid.put {p : Int → Bool} {zs L : List Int} {j : Nat} (h : Mid p zs L j) (hj : j < zs.length) (hp : p (rd zs j) = false) : Mid p zs (L.set (delL p zs j).length (rd zs j)) (j + 1) := by
  obtain ⟨h1, h2, h3⟩ := h; have hl := delL_len p zs j; have e : delL p zs (j + 1) = delL p zs j ++ [rd zs j] := by rw [delL_succ p zs hj, if_neg (by rw [hp]; decide)]
  refine ⟨by rw [List.length_set]; exact h1, ?_, ?_⟩
  · rw [e, List.length_append, List.length_singleton]; rw [List.take_add_one, List.take_set_of_le (Nat.le_refl _), h2]; simp [List.getElem?_set, show (delL p zs j).length < L.length by omega]
  · rw [List.drop_set_of_lt (by omega)]; have := congrArg (List.drop 1) h3
    rwa [List.drop_drop, List.drop_drop] at this
theorem Mid.at_ {p : Int → Bool} {zs L : List Int} {j : Nat} (h : Mid p zs L j) (hj : j < zs.length) : rd L j = rd zs j := by
  have h3 := congrArg (fun l => l[0]?) h.2.2; simp only [List.getElem?_drop, Nat.add_zero] at h3; simp [rd, List.getD, h3]
theorem Mid.start {p : Int → Bool} {zs : List Int} {k : Nat} (hk : k < zs.length) (h1 : (zs.take k).any p = false) (h2 : p (rd zs k) = true) : Mid p zs zs (k + 1) ∧ (delL p zs (k + 1)).length = k := by
  have hd : delL p zs k = zs.take k := by
    unfold delL; rw [List.filter_eq_self]; intro x hx; rw [List.any_eq_false] at h1
    simpa using h1 x hx
  have e : delL p zs (k + 1) = zs.take k := by rw [delL_succ p zs hk, if_pos h2, List.append_nil, hd]
  have hl : (zs.take k).length = k := by rw [List.length_take]; omega
  exact ⟨⟨rfl, by rw [e, hl], rfl⟩, by rw [e, hl]⟩
theorem own_past {w : World} {base g m c : Nat} {e : TypeId} {xs : List Value} (h : w.ownsRow base e 1 (.slice (some ⟨g, 0, none⟩) m c) m xs) : ∀ (vs : List Value) (o : Nat), m ≤ o → ∀ (w1 : World), w1.ownsRow base e 1 (.slice (some ⟨g, 0, none⟩) m c) m xs → (w1.setCells g o vs).ownsRow base e 1 (.slice (some ⟨g, 0, none⟩) m c) m xs
  | [], o, _, w1, h1 => h1
  | v :: vs, o, ho, w1, h1 => by
    refine own_past h vs (o + 1) (by omega) _ ?_; obtain ⟨hl, h2⟩ := h1; refine ⟨hl, .inr ?_⟩
    rcases h2 with ⟨h2, _⟩ | ⟨g', cap, cur, e1, h3, h4, h5, h6, h7, h8⟩
    · cases h2
    · cases e1
      refine ⟨g, c, cur.setIfInBounds o v, rfl, h3, blk_set h4 o v, h5, h6, by simpa using h7, ?_⟩; rw [Array.toList_setIfInBounds, List.take_set_of_le (by omega)]; exact h8
theorem R_past {w : World} {base g c : Nat} {xs : List Int} (h : Kd.R (Kd.int .i64) 3 w base (fun _ => True) (.slice (some ⟨g, 0, none⟩) xs.length c) xs) (vs : List Value) (o : Nat) (ho : xs.length ≤ o) : Kd.R (Kd.int .i64) 3 (w.setCells g o vs) base (fun _ => True) (.slice (some ⟨g, 0, none⟩) xs.length c) xs :=
  Kd.R_of_own (own_past (Kd.own_of_R h) vs o ho w (Kd.own_of_R h)) (fun _ _ => trivial)
theorem below_setCells_k {B g : Nat} (hg : B ≤ g) : ∀ (vs : List Value) (o : Nat) (w : World), Below B w (w.setCells g o vs)
  | [], _, w => Below.refl _ _
  | v :: vs, o, w => ((Below.refl B w).setCell (p := ⟨g, o, none⟩) hg v).trans (below_setCells_k hg vs (o + 1) _)
set_option maxRecDepth 100000 in
set_option maxHeartbeats 1000000 in
theorem delFunc_any (v : Value) (zs : List Int) (g : Nat) (lb : Array Value) (p : Int → Bool) (base : Nat) (w : World) (hR : Kd.R (Kd.int .i64) 3 w base (fun _ => True) v zs) (hl : zs.length ≤ 1000000) (hbase : base ≤ w.heap.size)
    (eg : ∀ args w, (callFunc g args).run Tryz.prog w = .ok (.enter g args) w) (hp : ∀ W x, Below base w W → Calls Tryz.prog g (#[.int .i64 x] ++ lb) W fun e w' => e = .returned (.bool (p x)) ∧ Below W.heap.size W w') :
    Calls Tryz.prog 71 #[v, .func (.func g) #[] lb] w fun e w' => ∃ v', e = .returned v' ∧ Aside0 (Kd.R (Kd.int .i64) 3 w' base (fun _ => True) v' (zs.filter fun x => !p x)) ∧ Below base w w' := by
  obtain ⟨A, c, rfl, hc, hC⟩ := Kd.R_reads hR; have hI := idxFirst A c zs g lb p w hC (by omega) eg (fun W x hW => hp W x (hW.mono hbase)); have HI := Aside0.mk hI; have HR := Aside0.mk hR; have HP := Aside0.mk hp; have HL := Aside0.mk hl; have HBS := Aside0.mk hbase; clear hI hR hp hC
  go_enter Tryz.func71, Tryz.ntmps71
  go_wp2_with fail
  refine HI.out.mono ?_; rintro e w1 ⟨i, rfl, Hi, hb1⟩; have HB1 := Aside0.mk (hb1.mono hbase); have HR1 := Aside0.mk (Kd.R_below HR.out hb1); clear hb1
  rcases Hi.out with ⟨hi, hn⟩ | ⟨k, hi, hk, hn, hy⟩
  · subst hi; have HN := Aside0.mk hn; clear hn; go_wp2; go_ret; refine ⟨_, rfl, ⟨?_⟩, HB1.out⟩
    have : (zs.filter fun x => !p x) = zs := by
      rw [List.filter_eq_self]; intro x hx; have := HN.out; rw [List.any_eq_false] at this
      simpa using this x hx
    rw [this]; exact HR1.out
  · subst hi; obtain ⟨gb, c', ev, hgb, hgl, hcc⟩ := own_form HR1.out (by omega)
    cases ev
    have HM := Aside0.mk (Mid.start hk hn hy); have HK := Aside0.mk hk; have HG := Aside0.mk (And.intro hgb (And.intro hgl hcc)); have k0 : ((k : Int) == -1) = false := by rw [beq_eq_false_iff_ne]; omega
    have k1 : ¬ ((k : Int) = -1) := by omega
    clear hk hn hy hgb hgl hcc Hi HR HI hc; obtain ⟨i3, hi3, hz30, hz31, hz32⟩ := info_parts info3; have hk1 : wrap64 ((k : Int) + 1) = ((k + 1 : Nat) : Int) := by rw [IntWalk.wrap64_in _ (by have := HK.out; have := HL.out; omega)]; simp
    go_upto_block 0 with (fail)
    rw [hk1]; clear hk1 k0 k1; go_wp2
    go_loopg [5, 6] (zs.length - (k + 1)) (fun kq v5 v6 w' => ∃ (j m : Nat) (L : List Int), v5 = .int .i64 (m : Int) ∧ v6 = .int .i64 (j : Int) ∧ Aside0 (j + kq = zs.length) ∧ Aside0 (m = (delL p zs j).length ∧ m < j) ∧ Aside0 (Mid p zs L j) ∧ Aside0 (Kd.R (Kd.int .i64) 3 w' base (fun _ => True) (.slice (some ⟨gb, 0, none⟩) L.length c) L ∧ Below base w1 w'))
    case atStart => exact ⟨k + 1, k, zs, rfl, rfl, ⟨by have := HK.out; omega⟩, ⟨HM.out.2.symm, by omega⟩, ⟨HM.out.1⟩, ⟨HR1.out, Below.refl _ _⟩⟩
    case round =>
      obtain ⟨j, m, L, rfl, rfl, HJ, HMM, HMi, HRL⟩ := hrel
      cases gk with
      | zero =>
        have c3 : decide ((j : Int) < (zs.length : Int)) = false := decide_eq_false (by have := HJ.out; omega); have c4 : ¬ (j < zs.length) := by have := HJ.out; omega
        have hje : j = zs.length := by have := HJ.out; omega
        have HLE : Aside0 (L.length = zs.length ∧ L.take m = zs.filter (fun x => !p x) ∧ m < zs.length) := ⟨HMi.out.1, by rw [HMM.out.1, HMi.out.2.1]; unfold delL; rw [hje, List.take_length], by have := HMM.out.2; omega⟩; have hmz : (m : Int) < (zs.length : Int) := by have := HLE.out.2.2; omega
        have hcut : ∀ W : World, (Instr.slice 22 (.slice (some ⟨gb, 0, none⟩) zs.length c) (some (.int .i64 (m : Int))) none none).run Tryz.prog W = .ok (.slice (some ⟨gb, m, none⟩) (zs.length - m) (c - m)) W := fun W => by
          have := cut_from (P := Tryz.prog) 22 3 .i64 Tryz.underlying22 hi3 1 hz31 (some ⟨gb, 0, none⟩) zs.length c (m : Int) (by omega) (by omega) W; rw [this, Int.toNat_natCast, if_neg (by have := HG.out.2.2; omega)]; simp [add_plain]
        have hcut2 : ∀ W : World, (Instr.slice 22 (.slice (some ⟨gb, 0, none⟩) zs.length c) none (some (.int .i64 (m : Int))) none).run Tryz.prog W = .ok (.slice (some ⟨gb, 0, none⟩) m c) W := fun W => by
          have := cut_to (P := Tryz.prog) 22 3 .i64 Tryz.underlying22 hi3 (some ⟨gb, 0, none⟩) zs.length c (m : Int) (by omega) (by omega) HG.out.2.2 W; rw [this, Int.toNat_natCast]
        have hclr : ∀ ty, (Builtin.clear_ #[22] ty #[.slice (some ⟨gb, m, none⟩) (zs.length - m) (c - m)]).run Tryz.prog wr = .ok (.tuple #[]) (wr.setCells gb m (List.replicate (zs.length - m) (.int .i64 0))) := fun ty => by
          refine Lib.run_clear_slice wr 22 3 ty (.int .i64 0) Tryz.underlying22 (fun _ => by kernel_rfl) rfl rfl gb m _ _ (by omega) (fun q hq => ?_) (fun q hq => ?_)
          · have := (Kd.R_cell (0 : Int) HRL.out.1 ((m + q : Nat) : Int) (by omega) (by rw [HLE.out.1]; omega)).1; rw [Int.toNat_natCast] at this; rw [this]; rfl
          · have := (Kd.R_cell (0 : Int) HRL.out.1 ((m + q : Nat) : Int) (by omega) (by rw [HLE.out.1]; omega)).2
            rwa [Int.toNat_natCast] at this
        clear hje hmz; go_wp2; go_ret; have h1 := Kd.R_take HRL.out.1 (m := m) (by have := HLE.out; omega); have hF : (zs.filter fun x => !p x).length = m := by rw [← HLE.out.2.1, List.length_take]; have := HLE.out; omega
        rw [HLE.out.2.1] at h1; obtain ⟨F, hFe⟩ : ∃ F, (zs.filter fun x => !p x) = F := ⟨_, rfl⟩; rw [hFe] at h1 hF ⊢; subst hF; exact ⟨_, rfl, ⟨R_past h1 _ _ (Nat.le_refl _)⟩, HB1.out.trans (HRL.out.2.trans (below_setCells_k HG.out.1 _ _ _))⟩
      | succ k2 =>
        have c3 : decide ((j : Int) < (zs.length : Int)) = true := decide_eq_true (by have := HJ.out; omega); have p1 : (0 : Int) ≤ (j : Int) := by omega
        have p2 : (j : Int) < (zs.length : Int) := by have := HJ.out; omega
        obtain ⟨hcell, hfz⟩ := Kd.R_cell (0 : Int) HRL.out.1 (j : Int) p1 (by rw [HMi.out.1]; exact p2); rw [Int.toNat_natCast] at hcell; obtain ⟨y, hy⟩ : ∃ y, rd zs (j : Int) = y := ⟨_, rfl⟩; have hyy : rdOf (0 : Int) L (j : Int) = y := by rw [← hy]; exact HMi.out.at_ (by omega)
        rw [hyy] at hcell; have HY := Aside0.mk hy; have hcall := HP.out wr y (HB1.out.trans HRL.out.2); clear hy hyy hfz; have q1 := eq_true p1; have q2 := eq_true p2
        cases hq : p y with
        | true =>
          rw [hq] at hcall; have HQ := Aside0.mk hq; clear hq
          go_wp2_with fail
          refine hcall.mono ?_; rintro e w3 ⟨rfl, hb3⟩; have HB3 := Aside0.mk hb3; have HSZ : Aside0 (base ≤ wr.heap.size) := ⟨Nat.le_trans HBS.out (Nat.le_trans HB1.out.size HRL.out.2.size)⟩; clear hb3; go_wp2
          go_roundg k2
          case measure => omega
          case rel => exact ⟨j + 1, m, L, rfl, (by rw [Int.natCast_add, Int.natCast_one]), ⟨by have := HJ.out; omega⟩, ⟨by rw [HMM.out.1, delL_succ p zs (by have := HJ.out; omega), if_pos (by rw [HY.out]; exact HQ.out), List.append_nil], by have := HMM.out.2; omega⟩, ⟨HMi.out.keep (by have := HJ.out; omega) (by rw [HY.out]; exact HQ.out)⟩, ⟨Kd.R_below HRL.out.1 HB3.out, HRL.out.2.trans (HB3.out.mono HSZ.out)⟩⟩
        | false =>
          rw [hq] at hcall; have HQ := Aside0.mk hq; clear hq
          go_wp2_with fail
          refine hcall.mono ?_; rintro e w3 ⟨rfl, hb3⟩; have HR3 := Aside0.mk (Kd.R_below HRL.out.1 hb3); have HB3 := Aside0.mk hb3; have HSZ : Aside0 (base ≤ wr.heap.size) := ⟨Nat.le_trans HBS.out (Nat.le_trans HB1.out.size HRL.out.2.size)⟩; clear hb3 hcell; have hmz : (m : Int) < (zs.length : Int) := by have := HMM.out.2; omega
          obtain ⟨zc, zf⟩ := Kd.R_cell (0 : Int) HR3.out (m : Int) (by omega) (by rw [HMi.out.1]; exact hmz); rw [Int.toNat_natCast] at zc zf; have q4 := eq_true hmz; have q5 : ((0 : Int) ≤ (m : Int)) = True := eq_true (by omega); go_wp2
          go_roundg k2
          case measure => omega
          case rel =>
            have hd : delL p zs (j + 1) = delL p zs j ++ [y] := by rw [delL_succ p zs (by have := HJ.out; omega), if_neg (by rw [HY.out, HQ.out]; decide), HY.out]
            have hmid := HMi.out.put (by have := HJ.out; omega) (by rw [HY.out]; exact HQ.out); rw [← HMM.out.1, HY.out] at hmid; have hput := (Kd.R_put HR3.out (m : Int) y).1; rw [Int.toNat_natCast] at hput; exact ⟨j + 1, m + 1, L.set m y, (by rw [Int.natCast_add, Int.natCast_one]), (by rw [Int.natCast_add, Int.natCast_one]), ⟨by have := HJ.out; omega⟩, ⟨by rw [hd, List.length_append, HMM.out.1]; rfl, by have := HMM.out.2; omega⟩, ⟨hmid⟩, ⟨by rw [List.length_set]; exact hput, (HRL.out.2.trans (HB3.out.mono HSZ.out)).setCell HG.out.1 _⟩⟩
end Go.Proofs.YtdmdahafiiggiaaGreatDoor.K
end
section
namespace Go.Proofs.YtdmdahafiiggiaaGreatDoor.K
open Go.RowKit Go.Proofs.YtdmdahafiiggiaaGreatDoorW.PrintWords Go.Proofs.YtdmdahafiiggiaaGreatDoorW.PrintLast Go.Proofs.YtdmdahafiiggiaaGreatDoorW.PrintMore
theorem idxFuncInt (A : Option Addr) (c : Nat) (l : List Int) (g : Nat) (lb : Array Value) (p : Int → Bool) (w : World) (hr : Kd.C (Kd.int .i64) w A l.length l) (hc : l.length ≤ c) (hl : l.length ≤ 9223372036854775807)
    (eg : ∀ args w, (callFunc g args).run Tryz.prog w = .ok (.enter g args) w) (hp : PredB g lb (Value.int .i64) p w) :
    Calls Tryz.prog 106 #[.slice A l.length c, .func (.func g) #[] lb] w fun e w' => ∃ i, e = .returned (.int .i64 i) ∧ Aside0 (decide (0 ≤ i) = l.any p) ∧ Below w.heap.size w w' := by
  have HR := Aside0.mk hr; have HC := Aside0.mk hc; clear hr hc
  go_enter Tryz.func106, Tryz.ntmps106
  go_wp2
  go_loopg [5, 8] l.length (fun gg _ s8 wr => ∃ kk : Nat, kk ≤ l.length ∧ l.length - kk ≤ gg ∧ s8 = .int .i64 kk ∧ Aside0 (Below w.heap.size w wr) ∧ Aside0 ((l.take kk).any p = false))
  case atStart => exact ⟨0, Nat.zero_le _, by omega, rfl, ⟨Below.refl _ w⟩, ⟨by simp⟩⟩
  case round =>
    obtain ⟨kk, hkk, hg, rfl, BW, AA⟩ := hrel
    by_cases hlt : kk < l.length
    · have hltz : (kk : Int) < (l.length : Int) := by omega
      obtain ⟨ad, e1, hx0⟩ := Kd.at_int HR.out (kk : Int) (by omega) hltz
      cases e1
      replace hx0 := (BW.out.cell (World.block_lt_of_cell? w _ hx0)).trans hx0; rw [Int.toNat_natCast] at hx0; have hcall := hp wr (rd l kk) BW.out; generalize hy : rd l kk = y at hx0 hcall; have HY := Aside0.mk hy; clear hy hp
      cases hq : p y with
      | true =>
        rw [hq] at hcall; have HQ := Aside0.mk hq; clear hq
        go_wp2_with fail
        refine hcall.mono ?_; rintro e w' ⟨rfl, hb'⟩; replace hb' := below_then BW.out BW.out.size hb'; go_wp2; go_ret; exact ⟨_, rfl, ⟨by rw [any_of_at p 0 l kk hlt (by have := HY.out; simp only [rd, Int.toNat_natCast] at this; rw [this]; exact HQ.out)]; simp⟩, hb'⟩
      | false =>
        rw [hq] at hcall; have HQ := Aside0.mk hq; clear hq
        go_wp2_with fail
        refine hcall.mono ?_; rintro e w' ⟨rfl, hb'⟩; replace hb' := below_then BW.out BW.out.size hb'; go_wp2
        go_roundg (l.length - (kk + 1))
        case measure => omega
        case rel => exact ⟨kk + 1, by omega, by omega, by go_num, ⟨hb'⟩, ⟨any_take_succ p 0 l kk AA.out (by have := HY.out; simp only [rd, Int.toNat_natCast] at this; rw [this]; exact HQ.out)⟩⟩
    · have hltz : ¬ (kk : Int) < (l.length : Int) := by omega
      go_wp2; go_ret; exact ⟨_, rfl, ⟨by rw [any_whole p l kk (by omega) AA.out]; rfl⟩, BW.out⟩
theorem contFuncInt (A : Option Addr) (c : Nat) (l : List Int) (g : Nat) (lb : Array Value) (p : Int → Bool) (w : World) (hr : Kd.C (Kd.int .i64) w A l.length l) (hc : l.length ≤ c) (hl : l.length ≤ 9223372036854775807)
    (eg : ∀ args w, (callFunc g args).run Tryz.prog w = .ok (.enter g args) w) (hp : PredB g lb (Value.int .i64) p w) :
    Calls Tryz.prog 90 #[.slice A l.length c, .func (.func g) #[] lb] w fun e w' => e = .returned (.bool (l.any p)) ∧ Below w.heap.size w w' := by
  have hi := idxFuncInt A c l g lb p w hr hc hl eg hp; clear hr hp
  go_enter Tryz.func90, Tryz.ntmps90
  go_wp2_with fail
  refine hi.mono ?_; rintro e w' ⟨i, rfl, hd, hb'⟩; go_wp2; go_ret; exact ⟨by rw [← hd.out]; rfl, hb'⟩
theorem idxFuncStretch (A : Option Addr) (c : Nat) (l : List S32) (g : Nat) (lb : Array Value) (p : S32 → Bool) (w : World) (hr : Kd.C k32 w A l.length l) (hc : l.length ≤ c) (hl : l.length ≤ 9223372036854775807)
    (eg : ∀ args w, (callFunc g args).run Tryz.prog w = .ok (.enter g args) w) (hp : PredB g lb (fun x => .agg #[.int .i64 x.f0, .int .i64 x.f1, .int .i64 x.f2, .int .i64 x.f3.f0, .int .i64 x.f3.f1]) p w) :
    Calls Tryz.prog 123 #[.slice A l.length c, .func (.func g) #[] lb] w fun e w' => ∃ i, e = .returned (.int .i64 i) ∧ Aside0 (decide (0 ≤ i) = l.any p) ∧ Below w.heap.size w w' := by
  have HR := Aside0.mk hr; have HC := Aside0.mk hc; clear hr hc
  go_enter Tryz.func123, Tryz.ntmps123
  go_wp2
  go_loopg [5, 8] l.length (fun gg _ s8 wr => ∃ kk : Nat, kk ≤ l.length ∧ l.length - kk ≤ gg ∧ s8 = .int .i64 kk ∧ Aside0 (Below w.heap.size w wr) ∧ Aside0 ((l.take kk).any p = false))
  case atStart => exact ⟨0, Nat.zero_le _, by omega, rfl, ⟨Below.refl _ w⟩, ⟨by simp⟩⟩
  case round =>
    obtain ⟨kk, hkk, hg, rfl, BW, AA⟩ := hrel
    by_cases hlt : kk < l.length
    · have hltz : (kk : Int) < (l.length : Int) := by omega
      obtain ⟨ad, e1, hx0, hx1, hx2, hx3, hx4⟩ := at_T32 HR.out (kk : Int) (by omega) hltz
      cases e1
      replace hx0 := (BW.out.cell (World.block_lt_of_cell? w _ hx0)).trans hx0; replace hx1 := (BW.out.cell (World.block_lt_of_cell? w _ hx1)).trans hx1; replace hx2 := (BW.out.cell (World.block_lt_of_cell? w _ hx2)).trans hx2; replace hx3 := (BW.out.cell (World.block_lt_of_cell? w _ hx3)).trans hx3; replace hx4 := (BW.out.cell (World.block_lt_of_cell? w _ hx4)).trans hx4; rw [Int.toNat_natCast] at hx0 hx1 hx2 hx3 hx4; have hcall := hp wr (rd_T32 l kk) BW.out; generalize hy : rd_T32 l kk = y at hx0 hx1 hx2 hx3 hx4 hcall; have HY := Aside0.mk hy; clear hy hp
      cases hq : p y with
      | true =>
        rw [hq] at hcall; have HQ := Aside0.mk hq; clear hq
        go_wp2_with fail
        refine hcall.mono ?_; rintro e w' ⟨rfl, hb'⟩; replace hb' := below_then BW.out BW.out.size hb'; go_wp2; go_ret; exact ⟨_, rfl, ⟨by rw [any_of_at p z32 l kk hlt (by have := HY.out; simp only [rd_T32, Int.toNat_natCast] at this; rw [this]; exact HQ.out)]; simp⟩, hb'⟩
      | false =>
        rw [hq] at hcall; have HQ := Aside0.mk hq; clear hq
        go_wp2_with fail
        refine hcall.mono ?_; rintro e w' ⟨rfl, hb'⟩; replace hb' := below_then BW.out BW.out.size hb'; go_wp2
        go_roundg (l.length - (kk + 1))
        case measure => omega
        case rel => exact ⟨kk + 1, by omega, by omega, by go_num, ⟨hb'⟩, ⟨any_take_succ p z32 l kk AA.out (by have := HY.out; simp only [rd_T32, Int.toNat_natCast] at this; rw [this]; exact HQ.out)⟩⟩
    · have hltz : ¬ (kk : Int) < (l.length : Int) := by omega
      go_wp2; go_ret; exact ⟨_, rfl, ⟨by rw [any_whole p l kk (by omega) AA.out]; rfl⟩, BW.out⟩
theorem contFuncStretch (A : Option Addr) (c : Nat) (l : List S32) (g : Nat) (lb : Array Value) (p : S32 → Bool) (w : World) (hr : Kd.C k32 w A l.length l) (hc : l.length ≤ c) (hl : l.length ≤ 9223372036854775807)
    (eg : ∀ args w, (callFunc g args).run Tryz.prog w = .ok (.enter g args) w) (hp : PredB g lb (fun x => .agg #[.int .i64 x.f0, .int .i64 x.f1, .int .i64 x.f2, .int .i64 x.f3.f0, .int .i64 x.f3.f1]) p w) :
    Calls Tryz.prog 100 #[.slice A l.length c, .func (.func g) #[] lb] w fun e w' => e = .returned (.bool (l.any p)) ∧ Below w.heap.size w w' := by
  have hi := idxFuncStretch A c l g lb p w hr hc hl eg hp; clear hr hp
  go_enter Tryz.func100, Tryz.ntmps100
  go_wp2_with fail
  refine hi.mono ?_; rintro e w' ⟨i, rfl, hd, hb'⟩; go_wp2; go_ret; exact ⟨by rw [← hd.out]; rfl, hb'⟩
theorem idxFuncNote (A : Option Addr) (c : Nat) (l : List S68) (g : Nat) (lb : Array Value) (p : S68 → Bool) (w : World) (hr : Kd.C k68 w A l.length l) (hc : l.length ≤ c) (hl : l.length ≤ 9223372036854775807)
    (eg : ∀ args w, (callFunc g args).run Tryz.prog w = .ok (.enter g args) w) (hp : PredB g lb (fun x => .agg #[.int .i64 x.f0, .int .i64 x.f1.f0, .int .i64 x.f1.f1]) p w) :
    Calls Tryz.prog 109 #[.slice A l.length c, .func (.func g) #[] lb] w fun e w' => ∃ i, e = .returned (.int .i64 i) ∧ Aside0 (decide (0 ≤ i) = l.any p) ∧ Below w.heap.size w w' := by
  have HR := Aside0.mk hr; have HC := Aside0.mk hc; clear hr hc
  go_enter Tryz.func109, Tryz.ntmps109
  go_wp2
  go_loopg [5, 8] l.length (fun gg _ s8 wr => ∃ kk : Nat, kk ≤ l.length ∧ l.length - kk ≤ gg ∧ s8 = .int .i64 kk ∧ Aside0 (Below w.heap.size w wr) ∧ Aside0 ((l.take kk).any p = false))
  case atStart => exact ⟨0, Nat.zero_le _, by omega, rfl, ⟨Below.refl _ w⟩, ⟨by simp⟩⟩
  case round =>
    obtain ⟨kk, hkk, hg, rfl, BW, AA⟩ := hrel
    by_cases hlt : kk < l.length
    · have hltz : (kk : Int) < (l.length : Int) := by omega
      obtain ⟨ad, e1, hx0, hx1, hx2⟩ := at_T68 HR.out (kk : Int) (by omega) hltz
      cases e1
      replace hx0 := (BW.out.cell (World.block_lt_of_cell? w _ hx0)).trans hx0; replace hx1 := (BW.out.cell (World.block_lt_of_cell? w _ hx1)).trans hx1; replace hx2 := (BW.out.cell (World.block_lt_of_cell? w _ hx2)).trans hx2; rw [Int.toNat_natCast] at hx0 hx1 hx2; have hcall := hp wr (rd_T68 l kk) BW.out; generalize hy : rd_T68 l kk = y at hx0 hx1 hx2 hcall; have HY := Aside0.mk hy; clear hy hp
      cases hq : p y with
      | true =>
        rw [hq] at hcall; have HQ := Aside0.mk hq; clear hq
        go_wp2_with fail
        refine hcall.mono ?_; rintro e w' ⟨rfl, hb'⟩; replace hb' := below_then BW.out BW.out.size hb'; go_wp2; go_ret; exact ⟨_, rfl, ⟨by rw [any_of_at p z68 l kk hlt (by have := HY.out; simp only [rd_T68, Int.toNat_natCast] at this; rw [this]; exact HQ.out)]; simp⟩, hb'⟩
      | false =>
        rw [hq] at hcall; have HQ := Aside0.mk hq; clear hq
        go_wp2_with fail
        refine hcall.mono ?_; rintro e w' ⟨rfl, hb'⟩; replace hb' := below_then BW.out BW.out.size hb'; go_wp2
        go_roundg (l.length - (kk + 1))
        case measure => omega
        case rel => exact ⟨kk + 1, by omega, by omega, by go_num, ⟨hb'⟩, ⟨any_take_succ p z68 l kk AA.out (by have := HY.out; simp only [rd_T68, Int.toNat_natCast] at this; rw [this]; exact HQ.out)⟩⟩
    · have hltz : ¬ (kk : Int) < (l.length : Int) := by omega
      go_wp2; go_ret; exact ⟨_, rfl, ⟨by rw [any_whole p l kk (by omega) AA.out]; rfl⟩, BW.out⟩
theorem contFuncNote (A : Option Addr) (c : Nat) (l : List S68) (g : Nat) (lb : Array Value) (p : S68 → Bool) (w : World) (hr : Kd.C k68 w A l.length l) (hc : l.length ≤ c) (hl : l.length ≤ 9223372036854775807)
    (eg : ∀ args w, (callFunc g args).run Tryz.prog w = .ok (.enter g args) w) (hp : PredB g lb (fun x => .agg #[.int .i64 x.f0, .int .i64 x.f1.f0, .int .i64 x.f1.f1]) p w) :
    Calls Tryz.prog 81 #[.slice A l.length c, .func (.func g) #[] lb] w fun e w' => e = .returned (.bool (l.any p)) ∧ Below w.heap.size w w' := by
  have hi := idxFuncNote A c l g lb p w hr hc hl eg hp; clear hr hp
  go_enter Tryz.func81, Tryz.ntmps81
  go_wp2_with fail
  refine hi.mono ?_; rintro e w' ⟨i, rfl, hd, hb'⟩; go_wp2; go_ret; exact ⟨by rw [← hd.out]; rfl, hb'⟩
theorem idxFuncSpan (A : Option Addr) (c : Nat) (l : List S30) (g : Nat) (lb : Array Value) (p : S30 → Bool) (w : World) (hr : Kd.C k30 w A l.length l) (hc : l.length ≤ c) (hl : l.length ≤ 9223372036854775807)
    (eg : ∀ args w, (callFunc g args).run Tryz.prog w = .ok (.enter g args) w) (hp : PredB g lb (fun x => .agg #[.int .i64 x.f0, .int .i64 x.f1]) p w) :
    Calls Tryz.prog 137 #[.slice A l.length c, .func (.func g) #[] lb] w fun e w' => ∃ i, e = .returned (.int .i64 i) ∧ Aside0 (decide (0 ≤ i) = l.any p) ∧ Below w.heap.size w w' := by
  have HR := Aside0.mk hr; have HC := Aside0.mk hc; clear hr hc
  go_enter Tryz.func137, Tryz.ntmps137
  go_wp2
  go_loopg [5, 8] l.length (fun gg _ s8 wr => ∃ kk : Nat, kk ≤ l.length ∧ l.length - kk ≤ gg ∧ s8 = .int .i64 kk ∧ Aside0 (Below w.heap.size w wr) ∧ Aside0 ((l.take kk).any p = false))
  case atStart => exact ⟨0, Nat.zero_le _, by omega, rfl, ⟨Below.refl _ w⟩, ⟨by simp⟩⟩
  case round =>
    obtain ⟨kk, hkk, hg, rfl, BW, AA⟩ := hrel
    by_cases hlt : kk < l.length
    · have hltz : (kk : Int) < (l.length : Int) := by omega
      obtain ⟨ad, e1, hx0, hx1⟩ := at_T30 HR.out (kk : Int) (by omega) hltz
      cases e1
      replace hx0 := (BW.out.cell (World.block_lt_of_cell? w _ hx0)).trans hx0; replace hx1 := (BW.out.cell (World.block_lt_of_cell? w _ hx1)).trans hx1; rw [Int.toNat_natCast] at hx0 hx1; have hcall := hp wr (rd_T30 l kk) BW.out; generalize hy : rd_T30 l kk = y at hx0 hx1 hcall; have HY := Aside0.mk hy; clear hy hp
      cases hq : p y with
      | true =>
        rw [hq] at hcall; have HQ := Aside0.mk hq; clear hq
        go_wp2_with fail
        refine hcall.mono ?_; rintro e w' ⟨rfl, hb'⟩; replace hb' := below_then BW.out BW.out.size hb'; go_wp2; go_ret; exact ⟨_, rfl, ⟨by rw [any_of_at p z30 l kk hlt (by have := HY.out; simp only [rd_T30, Int.toNat_natCast] at this; rw [this]; exact HQ.out)]; simp⟩, hb'⟩
      | false =>
        rw [hq] at hcall; have HQ := Aside0.mk hq; clear hq
        go_wp2_with fail
        refine hcall.mono ?_; rintro e w' ⟨rfl, hb'⟩; replace hb' := below_then BW.out BW.out.size hb'; go_wp2
        go_roundg (l.length - (kk + 1))
        case measure => omega
        case rel => exact ⟨kk + 1, by omega, by omega, by go_num, ⟨hb'⟩, ⟨any_take_succ p z30 l kk AA.out (by have := HY.out; simp only [rd_T30, Int.toNat_natCast] at this; rw [this]; exact HQ.out)⟩⟩
    · have hltz : ¬ (kk : Int) < (l.length : Int) := by omega
      go_wp2; go_ret; exact ⟨_, rfl, ⟨by rw [any_whole p l kk (by omega) AA.out]; rfl⟩, BW.out⟩
theorem contFuncSpan (A : Option Addr) (c : Nat) (l : List S30) (g : Nat) (lb : Array Value) (p : S30 → Bool) (w : World) (hr : Kd.C k30 w A l.length l) (hc : l.length ≤ c) (hl : l.length ≤ 9223372036854775807)
    (eg : ∀ args w, (callFunc g args).run Tryz.prog w = .ok (.enter g args) w) (hp : PredB g lb (fun x => .agg #[.int .i64 x.f0, .int .i64 x.f1]) p w) :
    Calls Tryz.prog 112 #[.slice A l.length c, .func (.func g) #[] lb] w fun e w' => e = .returned (.bool (l.any p)) ∧ Below w.heap.size w w' := by
  have hi := idxFuncSpan A c l g lb p w hr hc hl eg hp; clear hr hp
  go_enter Tryz.func112, Tryz.ntmps112
  go_wp2_with fail
  refine hi.mono ?_; rintro e w' ⟨i, rfl, hd, hb'⟩; go_wp2; go_ret; exact ⟨by rw [← hd.out]; rfl, hb'⟩
theorem idxFuncClass (A : Option Addr) (c : Nat) (l : List S123) (g : Nat) (lb : Array Value) (p : S123 → Bool) (w : World) (hr : Kd.C k123 w A l.length l) (hc : l.length ≤ c) (hl : l.length ≤ 9223372036854775807)
    (eg : ∀ args w, (callFunc g args).run Tryz.prog w = .ok (.enter g args) w) (hp : PredB g lb (fun x => .agg #[.int .i64 x.f0, .int .i64 x.f1, .int .i64 x.f2]) p w) :
    Calls Tryz.prog 138 #[.slice A l.length c, .func (.func g) #[] lb] w fun e w' => ∃ i, e = .returned (.int .i64 i) ∧ Aside0 (decide (0 ≤ i) = l.any p) ∧ Below w.heap.size w w' := by
  have HR := Aside0.mk hr; have HC := Aside0.mk hc; clear hr hc
  go_enter Tryz.func138, Tryz.ntmps138
  go_wp2
  go_loopg [5, 8] l.length (fun gg _ s8 wr => ∃ kk : Nat, kk ≤ l.length ∧ l.length - kk ≤ gg ∧ s8 = .int .i64 kk ∧ Aside0 (Below w.heap.size w wr) ∧ Aside0 ((l.take kk).any p = false))
  case atStart => exact ⟨0, Nat.zero_le _, by omega, rfl, ⟨Below.refl _ w⟩, ⟨by simp⟩⟩
  case round =>
    obtain ⟨kk, hkk, hg, rfl, BW, AA⟩ := hrel
    by_cases hlt : kk < l.length
    · have hltz : (kk : Int) < (l.length : Int) := by omega
      obtain ⟨ad, e1, hx0, hx1, hx2⟩ := at_T123 HR.out (kk : Int) (by omega) hltz
      cases e1
      replace hx0 := (BW.out.cell (World.block_lt_of_cell? w _ hx0)).trans hx0; replace hx1 := (BW.out.cell (World.block_lt_of_cell? w _ hx1)).trans hx1; replace hx2 := (BW.out.cell (World.block_lt_of_cell? w _ hx2)).trans hx2; rw [Int.toNat_natCast] at hx0 hx1 hx2; have hcall := hp wr (rd_T123 l kk) BW.out; generalize hy : rd_T123 l kk = y at hx0 hx1 hx2 hcall; have HY := Aside0.mk hy; clear hy hp
      cases hq : p y with
      | true =>
        rw [hq] at hcall; have HQ := Aside0.mk hq; clear hq
        go_wp2_with fail
        refine hcall.mono ?_; rintro e w' ⟨rfl, hb'⟩; replace hb' := below_then BW.out BW.out.size hb'; go_wp2; go_ret; exact ⟨_, rfl, ⟨by rw [any_of_at p z123 l kk hlt (by have := HY.out; simp only [rd_T123, Int.toNat_natCast] at this; rw [this]; exact HQ.out)]; simp⟩, hb'⟩
      | false =>
        rw [hq] at hcall; have HQ := Aside0.mk hq; clear hq
        go_wp2_with fail
        refine hcall.mono ?_; rintro e w' ⟨rfl, hb'⟩; replace hb' := below_then BW.out BW.out.size hb'; go_wp2
        go_roundg (l.length - (kk + 1))
        case measure => omega
        case rel => exact ⟨kk + 1, by omega, by omega, by go_num, ⟨hb'⟩, ⟨any_take_succ p z123 l kk AA.out (by have := HY.out; simp only [rd_T123, Int.toNat_natCast] at this; rw [this]; exact HQ.out)⟩⟩
    · have hltz : ¬ (kk : Int) < (l.length : Int) := by omega
      go_wp2; go_ret; exact ⟨_, rfl, ⟨by rw [any_whole p l kk (by omega) AA.out]; rfl⟩, BW.out⟩
theorem contFuncClass (A : Option Addr) (c : Nat) (l : List S123) (g : Nat) (lb : Array Value) (p : S123 → Bool) (w : World) (hr : Kd.C k123 w A l.length l) (hc : l.length ≤ c) (hl : l.length ≤ 9223372036854775807)
    (eg : ∀ args w, (callFunc g args).run Tryz.prog w = .ok (.enter g args) w) (hp : PredB g lb (fun x => .agg #[.int .i64 x.f0, .int .i64 x.f1, .int .i64 x.f2]) p w) :
    Calls Tryz.prog 116 #[.slice A l.length c, .func (.func g) #[] lb] w fun e w' => e = .returned (.bool (l.any p)) ∧ Below w.heap.size w w' := by
  have hi := idxFuncClass A c l g lb p w hr hc hl eg hp; clear hr hp
  go_enter Tryz.func116, Tryz.ntmps116
  go_wp2_with fail
  refine hi.mono ?_; rintro e w' ⟨i, rfl, hd, hb'⟩; go_wp2; go_ret; exact ⟨by rw [← hd.out]; rfl, hb'⟩
end Go.Proofs.YtdmdahafiiggiaaGreatDoor.K
end
section
namespace Go.Proofs.YtdmdahafiiggiaaGreatDoor.K
open Go.RowKit Go.Proofs.YtdmdahafiiggiaaGreatDoorW.PrintWords Go.Proofs.YtdmdahafiiggiaaGreatDoorW.PrintLast Go.Proofs.YtdmdahafiiggiaaGreatDoorW.PrintMore
attribute [local go_sem] max2_int min2_int max_two min_two max_three min_three max_four min_four
def channel_isSpan.f (a0_0 : Int) (a0_1 : Int) (a1 : Int) (a2 : Int) : Option (Bool) := if a1 ≤ a0_0 then (if a0_0 ≤ a0_1 then (some (decide (a0_1 ≤ a2))) else (some false)) else (some false)
set_option maxHeartbeats 8000000 in
set_option maxRecDepth 100000 in
theorem channel_isSpan.calls (a0_0 : Int) (a0_1 : Int) (a1 : Int) (a2 : Int) (r : Bool) (w : World) (h : channel_isSpan.f a0_0 a0_1 a1 a2 = some r) :
  Calls Tryz.prog 80 #[.agg #[.int .i64 a0_0, .int .i64 a0_1], .int .i64 a1, .int .i64 a2] w fun e w' => e = .returned (.bool r) ∧ Below w.heap.size w w' := by
 have hu30 := Tryz.underlying30; have HB := Aside0.mk (Below.refl w.heap.size w); have H : (if a1 ≤ a0_0 then (if a0_0 ≤ a0_1 then (some (decide (a0_1 ≤ a2))) else (some false)) else (some false)) = some r := h; clear h
 by_cases c4 : a1 ≤ a0_0
 ·rw [if_pos c4] at H; replace c4 := decide_eq_true c4
  by_cases c5 : a0_0 ≤ a0_1
  ·rw [if_pos c5] at H; replace c5 := decide_eq_true c5; obtain rfl := Option.some.inj H
   go_enter Tryz.func80, Tryz.ntmps80
   go_wp2_with (first | ((with_reducible refine gate_dst (N := 3) rfl ?_); refine bxe 3 #[.int .i64 a0_0, .int .i64 a0_1] 30 ?_; intro gb368 hg w6 hbox hb; have n0_ := Aside0.mk (below_step HB.out hb); have n1_ := Aside0.mk (hbox); have n2_ := gw hg; have n3_ := n2_; clear HB; have HB := n0_; have BK368 := n1_; have GW368 := n2_; have GE368 := n3_; clear n0_ n1_ n2_ n3_; clear hb hbox hg; obtain ⟨hcz7_0, hcz7_1⟩ := cz2 BK368.out; obtain ⟨hfz7_0, hfz7_1⟩ := fz2 BK368.out))
   go_ret; exact ⟨uE, uB⟩
  ·rw [if_neg c5] at H; replace c5 := decide_eq_false c5; obtain rfl := Option.some.inj H
   go_enter Tryz.func80, Tryz.ntmps80
   go_wp2_with (first | ((with_reducible refine gate_dst (N := 3) rfl ?_); refine bxe 3 #[.int .i64 a0_0, .int .i64 a0_1] 30 ?_; intro gb368 hg w8 hbox hb; have n0_ := Aside0.mk (below_step HB.out hb); have n1_ := Aside0.mk (hbox); have n2_ := gw hg; have n3_ := n2_; clear HB; have HB := n0_; have BK368 := n1_; have GW368 := n2_; have GE368 := n3_; clear n0_ n1_ n2_ n3_; clear hb hbox hg; obtain ⟨hcz9_0, hcz9_1⟩ := cz2 BK368.out; obtain ⟨hfz9_0, hfz9_1⟩ := fz2 BK368.out))
   go_ret; exact ⟨uE, uB⟩
 ·rw [if_neg c4] at H; replace c4 := decide_eq_false c4; obtain rfl := Option.some.inj H
  go_enter Tryz.func80, Tryz.ntmps80
  go_wp2_with (first | ((with_reducible refine gate_dst (N := 3) rfl ?_); refine bxe 3 #[.int .i64 a0_0, .int .i64 a0_1] 30 ?_; intro gb368 hg w10 hbox hb; have n0_ := Aside0.mk (below_step HB.out hb); have n1_ := Aside0.mk (hbox); have n2_ := gw hg; have n3_ := n2_; clear HB; have HB := n0_; have BK368 := n1_; have GW368 := n2_; have GE368 := n3_; clear n0_ n1_ n2_ n3_; clear hb hbox hg; obtain ⟨hcz11_0, hcz11_1⟩ := cz2 BK368.out; obtain ⟨hfz11_0, hfz11_1⟩ := fz2 BK368.out))
  go_ret; exact ⟨uE, uB⟩
end Go.Proofs.YtdmdahafiiggiaaGreatDoor.K
end
section
namespace Go.Proofs.YtdmdahafiiggiaaGreatDoor.K
open Go.RowKit Go.Proofs.YtdmdahafiiggiaaGreatDoorW.PrintWords Go.Proofs.YtdmdahafiiggiaaGreatDoorW.PrintLast Go.Proofs.YtdmdahafiiggiaaGreatDoorW.PrintMore
def inB (x lo hi : Int) : Bool := decide (lo ≤ x) && decide (x ≤ hi)
def isSpanB (a b lo hi : Int) : Bool := decide (lo ≤ a) && decide (a ≤ b) && decide (b ≤ hi)
theorem in_any (x lo hi : Int) (w : World) : Calls Tryz.prog 67 #[.int .i64 x, .int .i64 lo, .int .i64 hi] w fun e w' => e = .returned (.bool (inB x lo hi)) ∧ w = w' := by
  by_cases h1 : lo ≤ x
  · by_cases h2 : x ≤ hi
    · go_enter Tryz.func67, Tryz.ntmps67
      go_wp2; go_ret; exact ⟨by simp [inB, h1, h2], rfl⟩
    · go_enter Tryz.func67, Tryz.ntmps67
      go_wp2; go_ret; exact ⟨by simp [inB, h1, h2], rfl⟩
  · go_enter Tryz.func67, Tryz.ntmps67
    go_wp2; go_ret; exact ⟨by unfold inB; rw [decide_eq_false (by omega)]; rfl, rfl⟩
theorem isSpan_f (a b lo hi : Int) : channel_isSpan.f a b lo hi = some (isSpanB a b lo hi) := by
  unfold channel_isSpan.f isSpanB
  by_cases h1 : lo ≤ a <;> by_cases h2 : a ≤ b <;> simp [h1, h2]
theorem isSpan_any (a b lo hi : Int) (w : World) : Calls Tryz.prog 80 #[.agg #[.int .i64 a, .int .i64 b], .int .i64 lo, .int .i64 hi] w fun e w' => e = .returned (.bool (isSpanB a b lo hi)) ∧ Below w.heap.size w w' :=
  channel_isSpan.calls a b lo hi _ w (isSpan_f a b lo hi)
theorem isLine1_any (x : Int) (w : World) : Calls Tryz.prog 98 #[.int .i64 x] w fun e w' => e = .returned (.bool (!inB x 1 1000)) ∧ w = w' := by
  go_enter Tryz.func98, Tryz.ntmps98
  go_wp2_with (go_at_call 67; refine (in_any _ _ _ _).mono ?_; rintro e w' ⟨rfl, rfl⟩)
  go_ret; exact ⟨rfl, rfl⟩
def stretchB (n : Int) (s : S32) : Bool := inB s.f0 1 100 && inB s.f1 1 100 && inB s.f2 0 (n - 1) && isSpanB s.f3.f0 s.f3.f1 0 100
theorem isLine2_any (s : S32) (B : Nat) (A : Option Addr) (n c : Nat) (hn : n ≤ 9223372036854775807) (W : World) (hB : B < W.heap.size) (hcell : W.cell? ⟨B, 0, none⟩ = some (.slice A n c)) :
    Calls Tryz.prog 99 #[.agg #[.int .i64 s.f0, .int .i64 s.f1, .int .i64 s.f2, .int .i64 s.f3.f0, .int .i64 s.f3.f1], .pointer (some ⟨B, 0, none⟩)] W fun e w' => e = .returned (.bool (!stretchB n s)) ∧ Below W.heap.size W w' := by
  have hu := Tryz.underlying32; have hu2 := Tryz.underlying25; have hu3 := Tryz.underlying30; have hBW : ¬ B = W.heap.size := by omega
  have hne : B ≠ W.heap.size := by omega
  have n0 : (0 : Int) ≤ (n : Int) := by omega
  have n1 : (n : Int) ≤ 9223372036854775807 := by omega
  obtain ⟨f0, f1, f2, ⟨g0, g1⟩⟩ := s
  dsimp only
  cases h1 : inB f0 1 100 with
  | false =>
    go_enter Tryz.func99, Tryz.ntmps99
    go_wp2_with (go_at_call 67; refine (in_any _ _ _ _).mono ?_; rintro e w' ⟨rfl, rfl⟩)
    go_ret; exact ⟨by simp [stretchB, h1], (Below.refl _ _).alloc (Nat.le_refl _) _⟩
  | true =>
  cases h2 : inB f1 1 100 with
  | false =>
    go_enter Tryz.func99, Tryz.ntmps99
    go_wp2_with (go_at_call 67; refine (in_any _ _ _ _).mono ?_; rintro e w' ⟨rfl, rfl⟩)
    go_ret; exact ⟨by simp [stretchB, h1, h2], (Below.refl _ _).alloc (Nat.le_refl _) _⟩
  | true =>
  cases h3 : inB f2 0 (n - 1) with
  | false =>
    go_enter Tryz.func99, Tryz.ntmps99
    go_wp2_with (go_at_call 67; refine (in_any _ _ _ _).mono ?_; rintro e w' ⟨rfl, rfl⟩)
    go_ret; exact ⟨by simp [stretchB, h1, h2, h3], (Below.refl _ _).alloc (Nat.le_refl _) _⟩
  | true =>
    go_enter Tryz.func99, Tryz.ntmps99
    go_wp2_with (first | (go_at_call 67; refine (in_any _ _ _ _).mono ?_; rintro e w' ⟨rfl, rfl⟩) | (go_at_call 80; refine (isSpan_any _ _ _ _ _).mono ?_; rintro e w' ⟨rfl, hb⟩))
    go_ret; exact ⟨by simp [stretchB, h1, h2, h3], below_then ((Below.refl _ _).alloc (Nat.le_refl _) _) (by simp) hb⟩
def isLineB (sp : List Int) (st : List S32) : Bool := inB sp.length 1 10 && inB st.length 1 8 && sp.all (fun x => inB x 1 1000) && st.all (stretchB sp.length)
def channel_isLine.f (sp : List Int) (st : List S32) : Option Bool := if sp.length ≤ 9223372036854775807 ∧ st.length ≤ 9223372036854775807 then some (isLineB sp st) else none
theorem any_not_all {α : Type} (p : α → Bool) (l : List α) : (l.any fun x => !p x) = !(l.all p) := by
  induction l with
  | nil => rfl
  | cons x l ih => simp [ih, Bool.not_and]
theorem channel_isLine.calls (A0_0 : Option Addr) (c0_0 : Nat) (l0_0 : List Int) (A0_1 : Option Addr) (c0_1 : Nat) (l0_1 : List S32) (r : Bool) (w : World) (hr0_0 : Kd.C (Kd.int .i64) w A0_0 l0_0.length l0_0) (hc0_0 : l0_0.length ≤ c0_0) (hr0_1 : Kd.C k32 w A0_1 l0_1.length l0_1) (hc0_1 : l0_1.length ≤ c0_1) (h : channel_isLine.f l0_0 l0_1 = some r) :
    Calls Tryz.prog 54 #[.agg #[.slice A0_0 l0_0.length c0_0, .slice A0_1 l0_1.length c0_1]] w fun e w' => e = .returned (.bool r) ∧ Below w.heap.size w w' := by
  unfold channel_isLine.f at h
  by_cases hl : l0_0.length ≤ 9223372036854775807 ∧ l0_1.length ≤ 9223372036854775807
  case neg => rw [if_neg hl] at h; cases h
  rw [if_pos hl] at h; obtain rfl := Option.some.inj h; clear h; obtain ⟨hl0, hl1⟩ := hl; have hu2 := Tryz.underlying25; have hmf : ∀ (fn : Fn) (first cap : Array Value) (w : World), (Instr.makeFunc fn first cap).run Tryz.prog w = .ok (.func fn first cap) w := fun _ _ _ _ => rfl; have n0 : (0 : Int) ≤ (l0_0.length : Int) := by omega
  have n1 : (l0_0.length : Int) ≤ 9223372036854775807 := by omega
  obtain ⟨w1, hw1⟩ : ∃ w1, w.alloc (.cells #[.slice A0_0 l0_0.length c0_0, .slice A0_1 l0_1.length c0_1] 25) = w1 := ⟨_, rfl⟩; have hB1 : Below w.heap.size w w1 := by rw [← hw1]; exact (Below.refl _ _).alloc (Nat.le_refl _) _
  have hlt : w.heap.size < w1.heap.size := by rw [← hw1]; simp
  have hc0 : w1.cell? ⟨w.heap.size, 0, none⟩ = some (.slice A0_0 l0_0.length c0_0) := by rw [← hw1]; simp [go_sem]
  have hc1 : w1.cell? ⟨w.heap.size, 1, none⟩ = some (.slice A0_1 l0_1.length c0_1) := by rw [← hw1]; simp [go_sem]
  have c90 := contFuncInt A0_0 c0_0 l0_0 98 #[] (fun x => !inB x 1 1000) w1 (Kd.C_below hr0_0 hB1) hc0_0 hl0 (enters_of Tryz.func98 (by kernel_rfl) rfl) (fun W x _ => (isLine1_any x W).mono fun e w' ⟨he, hw⟩ => ⟨he, hw ▸ Below.refl _ _⟩); rw [any_not_all] at c90
  have c100 : ∀ W, Below w1.heap.size w1 W → Calls Tryz.prog 100 #[.slice A0_1 l0_1.length c0_1, .func (.func 99) #[] #[.pointer (some ⟨w.heap.size, 0, none⟩)]] W fun e w' => e = .returned (.bool (!l0_1.all (stretchB l0_0.length))) ∧ Below W.heap.size W w' := fun W hW => by
    have := contFuncStretch A0_1 c0_1 l0_1 99 #[.pointer (some ⟨w.heap.size, 0, none⟩)] (fun s => !stretchB l0_0.length s) W (Kd.C_below hr0_1 (below_then hB1 hB1.size hW)) hc0_1 hl1 (enters_of Tryz.func99 (by kernel_rfl) rfl)
      (fun W' s hW' => isLine2_any s w.heap.size A0_0 l0_0.length c0_0 hl0 W' (Nat.lt_of_lt_of_le hlt (Nat.le_trans hW.size hW'.size)) ((hW'.cell (p := ⟨w.heap.size, 0, none⟩) (Nat.lt_of_lt_of_le hlt hW.size)).trans ((hW.cell (p := ⟨w.heap.size, 0, none⟩) hlt).trans hc0)))
    rwa [any_not_all] at this
  have C100 := Aside0.mk c100; have HR := Aside0.mk (And.intro hr0_0 hr0_1); clear c100 hr0_0 hr0_1; have HW1 := Aside0.mk hw1; have HLT := Aside0.mk hlt; clear hlt
  cases h1 : inB l0_0.length 1 10 with
  | false =>
    go_enter Tryz.func54, Tryz.ntmps54
    go_wp2_with (first | (go_at_call 67; refine (in_any _ _ _ _).mono ?_; rintro e w' ⟨rfl, rfl⟩))
    go_ret; exact ⟨by simp [isLineB, h1], hB1⟩
  | true =>
  cases h2 : inB l0_1.length 1 8 with
  | false =>
    go_enter Tryz.func54, Tryz.ntmps54
    go_wp2_with (first | (go_at_call 67; refine (in_any _ _ _ _).mono ?_; rintro e w' ⟨rfl, rfl⟩))
    go_ret; exact ⟨by simp [isLineB, h1, h2], hB1⟩
  | true =>
  cases h3 : l0_0.all (fun x => inB x 1 1000) with
  | false =>
    rw [h3] at c90
    go_enter Tryz.func54, Tryz.ntmps54
    go_wp2_with (first | (go_at_call 67; refine (in_any _ _ _ _).mono ?_; rintro e w' ⟨rfl, rfl⟩) | (go_at_call 90; refine c90.mono ?_; rintro e w' ⟨rfl, hb⟩))
    go_ret; exact ⟨by simp [isLineB, h1, h2, h3], below_then hB1 hB1.size hb⟩
  | true =>
    rw [h3] at c90
    go_enter Tryz.func54, Tryz.ntmps54
    go_wp2_with (first | (go_at_call 67; refine (in_any _ _ _ _).mono ?_; rintro e w' ⟨rfl, rfl⟩) | (go_at_call 90; refine c90.mono ?_; rintro e w2 ⟨rfl, hb⟩; have hc1' := (hb.cell (p := ⟨w.heap.size, 1, none⟩) HLT.out).trans hc1))
    refine (C100.out _ hb).mono ?_; rintro e w3 ⟨rfl, hb3⟩; go_wp2; go_ret; exact ⟨by simp [isLineB, h1, h2, h3], below_then (below_then hB1 hB1.size hb) (Nat.le_trans hB1.size hb.size) hb3⟩
end Go.Proofs.YtdmdahafiiggiaaGreatDoor.K
end
section
namespace Go.Proofs.YtdmdahafiiggiaaGreatDoor.K
open Go.RowKit Go.Proofs.YtdmdahafiiggiaaGreatDoorW.PrintWords Go.Proofs.YtdmdahafiiggiaaGreatDoorW.PrintLast Go.Proofs.YtdmdahafiiggiaaGreatDoorW.PrintMore
attribute [local go_sem] max2_int min2_int max_two min_two max_three min_three max_four min_four
def channel_aging.f (l0_0 : List Int) (l0_1 : List (S32)) (a1 : Int) (a2 : Int) : Option (Int × Int × Int × Int × Int × Int × Int) := if 0 ≤ a1 then (if a1 < (l0_1.length : Int) then (if 0 ≤ ((rd_T32 l0_1 a1).f2) then (if ((rd_T32 l0_1 a1).f2) < (l0_0.length : Int) then (some ((rd_T32 l0_1 a1).f0, (rd_T32 l0_1 a1).f1, (rd_T32 l0_1 a1).f2, (rd_T32 l0_1 a1).f3.f0, (rd_T32 l0_1 a1).f3.f1, a2, rd l0_0 ((rd_T32 l0_1 a1).f2))) else (none)) else (none)) else (none)) else (none)
def channel_aging.T2 : Bool × List (List Nat × List Nat) := (true, [([], []), ([], []), ([], []), ([2], [2]), ([], []), ([4], [4]), ([3, 5], [3, 5]), ([6], [6]), ([0, 1, 7], [0, 1, 7]), ([8, 0, 1, 2, 3, 4, 5, 6, 7, 8], [8])])
def channel_aging.B2 : List Nat := [0, 0, 0, 4, 0, 16, 60, 124, 255, 511]
theorem channel_aging.tab2 : rtab .any (opsOf Tryz.f57 2) = channel_aging.T2 := by kernel_rfl
theorem channel_aging.bits2 : waitsOk channel_aging.T2.2 channel_aging.B2 = true := by kernel_rfl
set_option maxHeartbeats 8000000 in
set_option maxRecDepth 100000 in
theorem channel_aging.calls (A0_0 : Option Addr) (c0_0 : Nat) (l0_0 : List Int) (A0_1 : Option Addr) (c0_1 : Nat) (l0_1 : List (S32)) (a1 : Int) (a2 : Int) (r1 : Int) (r2 : Int) (r3 : Int) (r4 : Int) (r5 : Int) (r6 : Int) (r7 : Int) (w : World) (hr0_0 : Kd.C (Kd.int .i64) w A0_0 l0_0.length l0_0) (hc0_0 : l0_0.length ≤ c0_0) (hr0_1 : Kd.C k32 w A0_1 l0_1.length l0_1) (hc0_1 : l0_1.length ≤ c0_1) (h : channel_aging.f l0_0 l0_1 a1 a2 = some (r1, r2, r3, r4, r5, r6, r7)) :
  Calls Tryz.prog 57 #[.agg #[.slice A0_0 l0_0.length c0_0, .slice A0_1 l0_1.length c0_1], .int .i64 a1, .int .i64 a2] w fun e w' => e = .returned (.agg #[.int .i64 r1, .int .i64 r2, .int .i64 r3, .int .i64 r4, .int .i64 r5, .int .i64 r6, .int .i64 r7]) ∧ Below w.heap.size w w' := by
 have hu25 := Tryz.underlying25; have hu93 := Tryz.underlying93; have hu32 := Tryz.underlying32; have HR0_0 := Aside0.mk hr0_0; have HC0_0 := Aside0.mk hc0_0; clear hr0_0 hc0_0; have HR0_1 := Aside0.mk hr0_1; have HC0_1 := Aside0.mk hc0_1; clear hr0_1 hc0_1; have HB := Aside0.mk (Below.refl w.heap.size w); have H : (if 0 ≤ a1 then (if a1 < (l0_1.length : Int) then (if 0 ≤ ((rd_T32 l0_1 a1).f2) then (if ((rd_T32 l0_1 a1).f2) < (l0_0.length : Int) then (some ((rd_T32 l0_1 a1).f0, (rd_T32 l0_1 a1).f1, (rd_T32 l0_1 a1).f2, (rd_T32 l0_1 a1).f3.f0, (rd_T32 l0_1 a1).f3.f1, a2, rd l0_0 ((rd_T32 l0_1 a1).f2))) else (none)) else (none)) else (none)) else (none)) = some (r1, r2, r3, r4, r5, r6, r7) := h; clear h; obtain ⟨c4, H⟩ := ifs H; replace c4 := decide_eq_true c4; obtain ⟨c5, H⟩ := ifs H; replace c5 := decide_eq_true c5; obtain ⟨c6, H⟩ := ifs H; replace c6 := decide_eq_true c6; obtain ⟨c7, H⟩ := ifs H; replace c7 := decide_eq_true c7; simp only [Option.some.injEq, Prod.mk.injEq] at H; obtain ⟨rfl, rfl, rfl, rfl, rfl, rfl, rfl⟩ := H
 go_enter Tryz.func57, Tryz.ntmps57
 (try go_wp2_with (first | ((with_reducible refine gate_dst (N := 3) rfl ?_); refine bxe 3 #[.slice A0_0 l0_0.length c0_0, .slice A0_1 l0_1.length c0_1] 25 ?_; intro gb126 hg w8 hbox hb; have n0_ := Aside0.mk (below_step HB.out hb); have n1_ := Aside0.mk (hbox); have n2_ := gw hg; have n3_ := n2_; clear HB; have HB := n0_; have BK126 := n1_; have GW126 := n2_; have GE126 := n3_; clear n0_ n1_ n2_ n3_; clear hb hbox hg) | ((with_reducible refine gate_dst (N := 6) rfl ?_); refine bxe 6 #[.int .i64 0, .int .i64 0, .int .i64 0, .int .i64 0, .int .i64 0, .int .i64 0, .int .i64 0] 93 ?_; intro gb127 hg w9 hbox hb; have n0_ := Aside0.mk (blk_below BK126.out hb); have n1_ := Aside0.mk (below_step HB.out hb); have n2_ := Aside0.mk (hbox); have n3_ := gw hg; have n4_ := n3_; have n5_ := nb BK126 hg; have n6_ := nc BK126 hg; clear BK126; clear HB; have BK126 := n0_; have HB := n1_; have BK127 := n2_; have GW127 := n3_; have GE127 := n4_; have NB126_127 := n5_; have NB127_126 := n6_; clear n0_ n1_ n2_ n3_ n4_ n5_ n6_; clear hb hbox hg; have hnb10 := NB126_127.out; have hnc10 := NB127_126.out; obtain ⟨hcz11_0, hcz11_1⟩ := cz2 BK126.out; obtain ⟨hfz11_0, hfz11_1⟩ := fz2 BK126.out; have p128 : 0 ≤ (a1 : Int) := of_decide_eq_true (by assumption); have q128 : a1 < (l0_1.length : Int) := of_decide_eq_true (by assumption); obtain ⟨ad128, e128, hx128_0, hx128_1, hx128_2, hx128_3, hx128_4⟩ := at_T32 HR0_1.out a1 p128 q128; cases e128; replace hx128_0 := hcell HB.out hx128_0; replace hx128_1 := hcell HB.out hx128_1; replace hx128_2 := hcell HB.out hx128_2; replace hx128_3 := hcell HB.out hx128_3; replace hx128_4 := hcell HB.out hx128_4; replace p128 := eq_true p128; replace q128 := eq_true q128) | ((with_reducible refine gate_dst (N := 7) rfl ?_); refine bxe 7 #[.int .i64 0, .int .i64 0, .int .i64 0, .int .i64 0, .int .i64 0] 32 ?_; intro gb129 hg w12 hbox hb; have n0_ := Aside0.mk (blk_below BK126.out hb); have n1_ := Aside0.mk (blk_below BK127.out hb); have n2_ := Aside0.mk (below_step HB.out hb); have n3_ := Aside0.mk (hbox); have n4_ := gw hg; have n5_ := n4_; have n6_ := nb BK126 hg; have n7_ := nc BK126 hg; have n8_ := nb BK127 hg; have n9_ := nc BK127 hg; clear BK126; clear BK127; clear HB; have BK126 := n0_; have BK127 := n1_; have HB := n2_; have BK129 := n3_; have GW129 := n4_; have GE129 := n5_; have NB126_129 := n6_; have NB129_126 := n7_; have NB127_129 := n8_; have NB129_127 := n9_; clear n0_ n1_ n2_ n3_ n4_ n5_ n6_ n7_ n8_ n9_; clear hb hbox hg; have hnb13 := NB129_126.out; have hnc13 := NB126_129.out; have hnb14 := NB129_127.out; have hnc14 := NB127_129.out; obtain ⟨hcz15_0, hcz15_1, hcz15_2, hcz15_3, hcz15_4⟩ := cz5 BK129.out; obtain ⟨hfz15_0, hfz15_1, hfz15_2, hfz15_3, hfz15_4⟩ := fz5 BK129.out))); have n0_ : Aside0 ((((((w12.setCell ⟨gb129, 0, none⟩ (.int .i64 ((rd_T32 l0_1 a1).f0))).setCell ⟨gb129, 1, none⟩ (.int .i64 ((rd_T32 l0_1 a1).f1))).setCell ⟨gb129, 2, none⟩ (.int .i64 ((rd_T32 l0_1 a1).f2))).setCell ⟨gb129, 3, none⟩ (.int .i64 ((rd_T32 l0_1 a1).f3.f0))).setCell ⟨gb129, 4, none⟩ (.int .i64 ((rd_T32 l0_1 a1).f3.f1))).heap[gb126]? = some (.cells #[.slice A0_0 l0_0.length c0_0, .slice (some ad128) l0_1.length c0_1] 25 (0, 0))) := ⟨by refine uK ?_; refine blk_far ?_ NB126_129.out _; refine uK ?_; refine blk_far ?_ NB126_129.out _; refine uK ?_; refine blk_far ?_ NB126_129.out _; refine uK ?_; refine blk_far ?_ NB126_129.out _; refine uK ?_; refine blk_far ?_ NB126_129.out _; refine uK ?_; exact BK126.out⟩; have n1_ : Aside0 ((((((w12.setCell ⟨gb129, 0, none⟩ (.int .i64 ((rd_T32 l0_1 a1).f0))).setCell ⟨gb129, 1, none⟩ (.int .i64 ((rd_T32 l0_1 a1).f1))).setCell ⟨gb129, 2, none⟩ (.int .i64 ((rd_T32 l0_1 a1).f2))).setCell ⟨gb129, 3, none⟩ (.int .i64 ((rd_T32 l0_1 a1).f3.f0))).setCell ⟨gb129, 4, none⟩ (.int .i64 ((rd_T32 l0_1 a1).f3.f1))).heap[gb127]? = some (.cells #[.int .i64 0, .int .i64 0, .int .i64 0, .int .i64 0, .int .i64 0, .int .i64 0, .int .i64 0] 93 (0, 0))) := ⟨by refine uK ?_; refine blk_far ?_ NB127_129.out _; refine uK ?_; refine blk_far ?_ NB127_129.out _; refine uK ?_; refine blk_far ?_ NB127_129.out _; refine uK ?_; refine blk_far ?_ NB127_129.out _; refine uK ?_; refine blk_far ?_ NB127_129.out _; refine uK ?_; exact BK127.out⟩; have n2_ : Aside0 ((((((w12.setCell ⟨gb129, 0, none⟩ (.int .i64 ((rd_T32 l0_1 a1).f0))).setCell ⟨gb129, 1, none⟩ (.int .i64 ((rd_T32 l0_1 a1).f1))).setCell ⟨gb129, 2, none⟩ (.int .i64 ((rd_T32 l0_1 a1).f2))).setCell ⟨gb129, 3, none⟩ (.int .i64 ((rd_T32 l0_1 a1).f3.f0))).setCell ⟨gb129, 4, none⟩ (.int .i64 ((rd_T32 l0_1 a1).f3.f1))).heap[gb129]? = some (.cells #[.int .i64 ((rd_T32 l0_1 a1).f0), .int .i64 ((rd_T32 l0_1 a1).f1), .int .i64 ((rd_T32 l0_1 a1).f2), .int .i64 ((rd_T32 l0_1 a1).f3.f0), .int .i64 ((rd_T32 l0_1 a1).f3.f1)] 32 (0, 0))) := ⟨by refine uK ?_; refine blk_put (cs := #[.int .i64 ((rd_T32 l0_1 a1).f0), .int .i64 ((rd_T32 l0_1 a1).f1), .int .i64 ((rd_T32 l0_1 a1).f2), .int .i64 ((rd_T32 l0_1 a1).f3.f0), .int .i64 0]) ?_ 4 _ rfl; refine uK ?_; refine blk_put (cs := #[.int .i64 ((rd_T32 l0_1 a1).f0), .int .i64 ((rd_T32 l0_1 a1).f1), .int .i64 ((rd_T32 l0_1 a1).f2), .int .i64 0, .int .i64 0]) ?_ 3 _ rfl; refine uK ?_; refine blk_put (cs := #[.int .i64 ((rd_T32 l0_1 a1).f0), .int .i64 ((rd_T32 l0_1 a1).f1), .int .i64 0, .int .i64 0, .int .i64 0]) ?_ 2 _ rfl; refine uK ?_; refine blk_put (cs := #[.int .i64 ((rd_T32 l0_1 a1).f0), .int .i64 0, .int .i64 0, .int .i64 0, .int .i64 0]) ?_ 1 _ rfl; refine uK ?_; refine blk_put (cs := #[.int .i64 0, .int .i64 0, .int .i64 0, .int .i64 0, .int .i64 0]) ?_ 0 _ rfl; refine uK ?_; exact BK129.out⟩; have n3_ : Aside0 (Below w.heap.size w (((((w12.setCell ⟨gb129, 0, none⟩ (.int .i64 ((rd_T32 l0_1 a1).f0))).setCell ⟨gb129, 1, none⟩ (.int .i64 ((rd_T32 l0_1 a1).f1))).setCell ⟨gb129, 2, none⟩ (.int .i64 ((rd_T32 l0_1 a1).f2))).setCell ⟨gb129, 3, none⟩ (.int .i64 ((rd_T32 l0_1 a1).f3.f0))).setCell ⟨gb129, 4, none⟩ (.int .i64 ((rd_T32 l0_1 a1).f3.f1)))) := ⟨uB⟩; (try clear BK126); (try clear BK127); (try clear BK129); (try clear HB); generalize (((((w12.setCell ⟨gb129, 0, none⟩ (.int .i64 ((rd_T32 l0_1 a1).f0))).setCell ⟨gb129, 1, none⟩ (.int .i64 ((rd_T32 l0_1 a1).f1))).setCell ⟨gb129, 2, none⟩ (.int .i64 ((rd_T32 l0_1 a1).f2))).setCell ⟨gb129, 3, none⟩ (.int .i64 ((rd_T32 l0_1 a1).f3.f0))).setCell ⟨gb129, 4, none⟩ (.int .i64 ((rd_T32 l0_1 a1).f3.f1))) = w16 at n0_ n1_ n2_ n3_ ⊢; have BK126 := n0_; have BK127 := n1_; have BK129 := n2_; have HB := n3_; clear n0_ n1_ n2_ n3_; replace BK126 := Aside0.mk (blk_drew BK126.out); replace BK127 := Aside0.mk (blk_drew BK127.out); replace BK129 := Aside0.mk (blk_drew BK129.out); replace HB := Aside0.mk (below_drew1 HB.out); have p130 : 0 ≤ (((rd_T32 l0_1 a1).f2) : Int) := of_decide_eq_true (by assumption); have q130 : ((rd_T32 l0_1 a1).f2) < (l0_0.length : Int) := of_decide_eq_true (by assumption); obtain ⟨ad130, e130, hx130_0⟩ := Kd.at_int HR0_0.out ((rd_T32 l0_1 a1).f2) p130 q130; have hw130_0 := hx130_0
 cases e130
 replace hx130_0 := hcell HB.out hx130_0; replace p130 := eq_true p130; replace q130 := eq_true q130; refine start_ (n := 10) (S := fun w' => w'.cell? ⟨gb129, 0, none⟩ = some (.int .i64 ((rd_T32 l0_1 a1).f0)) ∧ w'.cell? ⟨gb129, 1, none⟩ = some (.int .i64 ((rd_T32 l0_1 a1).f1)) ∧ w'.cell? ⟨gb129, 2, none⟩ = some (.int .i64 ((rd_T32 l0_1 a1).f2)) ∧ w'.cell? ⟨gb129, 3, none⟩ = some (.int .i64 ((rd_T32 l0_1 a1).f3.f0)) ∧ w'.cell? ⟨gb129, 4, none⟩ = some (.int .i64 ((rd_T32 l0_1 a1).f3.f1)) ∧ w'.cell? ⟨gb126, 0, none⟩ = some (.slice (some ad130) l0_0.length c0_0) ∧ w'.cell? ⟨gb126, 1, none⟩ = some (.slice (some ad128) l0_1.length c0_1) ∧ w'.cell? (ad130.add (((rd_T32 l0_1 a1).f2)).toNat) = some (.int .i64 (rd l0_0 ((rd_T32 l0_1 a1).f2)))) (ds := []) (bl 10 0) (by kernel_rfl) rfl rfl ⟨(blk_cell BK129.out 0).trans rfl, (blk_cell BK129.out 1).trans rfl, (blk_cell BK129.out 2).trans rfl, (blk_cell BK129.out 3).trans rfl, (blk_cell BK129.out 4).trans rfl, (blk_cell BK126.out 0).trans rfl, (blk_cell BK126.out 1).trans rfl, (hcell HB.out hw130_0)⟩ (fun hHeld => ?_); refine with_tabW channel_aging.tab2 channel_aging.bits2 (fun HT_ HW_ => ?_)
 generalize w16.drew = w17 at BK126 BK127 BK129 HB hx130_0 hHeld ⊢; refine pu 1 14 10 2 ?_; refine pu 2 15 10 6 ?_; refine pu 4 17 10 22 ?_; refine tk8 0 13 10 23 hHeld ?_; refine tk8 3 16 10 31 hHeld ?_; refine tk8 5 18 10 63 hHeld ?_; refine pu 6 19 10 127 ?_; refine tk8 7 20 10 255 hHeld ?_; refine pu 8 21 10 511 ?_; refine one_ (i := 9) (N := none) (bl 10 1023) rfl rfl (one_of HT_.out (by kernel_rfl)) (by decide) (fun K hK => ?_); have hs18 := (blk_cell BK127.out 0).trans rfl; have hfs18 := blk_frozen BK127.out 0; have hns18_0 := NB126_127.out; have hns18_2 := NB129_127.out; have hms18_0 := NB127_126.out; have hms18_2 := NB127_129.out; have hs19 := (blk_cell BK127.out 1).trans rfl; have hfs19 := blk_frozen BK127.out 1; have hns19_0 := NB126_127.out; have hns19_2 := NB129_127.out; have hms19_0 := NB127_126.out; have hms19_2 := NB127_129.out; have hs20 := (blk_cell BK127.out 2).trans rfl; have hfs20 := blk_frozen BK127.out 2; have hns20_0 := NB126_127.out; have hns20_2 := NB129_127.out; have hms20_0 := NB127_126.out; have hms20_2 := NB127_129.out; have hs21 := (blk_cell BK127.out 3).trans rfl; have hfs21 := blk_frozen BK127.out 3; have hns21_0 := NB126_127.out; have hns21_2 := NB129_127.out; have hms21_0 := NB127_126.out; have hms21_2 := NB127_129.out; have hs22 := (blk_cell BK127.out 4).trans rfl; have hfs22 := blk_frozen BK127.out 4; have hns22_0 := NB126_127.out; have hns22_2 := NB129_127.out; have hms22_0 := NB127_126.out; have hms22_2 := NB127_129.out; have hs23 := (blk_cell BK127.out 5).trans rfl; have hfs23 := blk_frozen BK127.out 5; have hns23_0 := NB126_127.out; have hns23_2 := NB129_127.out; have hms23_0 := NB127_126.out; have hms23_2 := NB127_129.out; have hs24 := (blk_cell BK127.out 6).trans rfl; have hfs24 := blk_frozen BK127.out 6; have hns24_0 := NB126_127.out; have hns24_2 := NB129_127.out; have hms24_0 := NB127_126.out; have hms24_2 := NB127_129.out; refine skip_ (w1 := ?_) (by rfl) rfl ?_ ?_; rotate_left
 ·go_simp
  rfl
 refine hK.out _ _ ⟨((cf gb127 NB129_127.out).trans (((cf gb127 NB129_127.out).trans (((cf gb127 NB129_127.out).trans (((cf gb127 NB129_127.out).trans (((cf gb127 NB129_127.out).trans (((cf gb127 NB129_127.out).trans (((cf gb127 NB129_127.out).trans (hHeld.1)))))))))))))), ((cf gb127 NB129_127.out).trans (((cf gb127 NB129_127.out).trans (((cf gb127 NB129_127.out).trans (((cf gb127 NB129_127.out).trans (((cf gb127 NB129_127.out).trans (((cf gb127 NB129_127.out).trans (((cf gb127 NB129_127.out).trans (hHeld.2.1)))))))))))))), ((cf gb127 NB129_127.out).trans (((cf gb127 NB129_127.out).trans (((cf gb127 NB129_127.out).trans (((cf gb127 NB129_127.out).trans (((cf gb127 NB129_127.out).trans (((cf gb127 NB129_127.out).trans (((cf gb127 NB129_127.out).trans (hHeld.2.2.1)))))))))))))), ((cf gb127 NB129_127.out).trans (((cf gb127 NB129_127.out).trans (((cf gb127 NB129_127.out).trans (((cf gb127 NB129_127.out).trans (((cf gb127 NB129_127.out).trans (((cf gb127 NB129_127.out).trans (((cf gb127 NB129_127.out).trans (hHeld.2.2.2.1)))))))))))))), ((cf gb127 NB129_127.out).trans (((cf gb127 NB129_127.out).trans (((cf gb127 NB129_127.out).trans (((cf gb127 NB129_127.out).trans (((cf gb127 NB129_127.out).trans (((cf gb127 NB129_127.out).trans (((cf gb127 NB129_127.out).trans (hHeld.2.2.2.2.1)))))))))))))), ((cf gb127 NB126_127.out).trans (((cf gb127 NB126_127.out).trans (((cf gb127 NB126_127.out).trans (((cf gb127 NB126_127.out).trans (((cf gb127 NB126_127.out).trans (((cf gb127 NB126_127.out).trans (((cf gb127 NB126_127.out).trans (hHeld.2.2.2.2.2.1)))))))))))))), ((cf gb127 NB126_127.out).trans (((cf gb127 NB126_127.out).trans (((cf gb127 NB126_127.out).trans (((cf gb127 NB126_127.out).trans (((cf gb127 NB126_127.out).trans (((cf gb127 NB126_127.out).trans (((cf gb127 NB126_127.out).trans (hHeld.2.2.2.2.2.2.1)))))))))))))), ((cf gb127 (fl hw130_0 GW127)).trans (((cf gb127 (fl hw130_0 GW127)).trans (((cf gb127 (fl hw130_0 GW127)).trans (((cf gb127 (fl hw130_0 GW127)).trans (((cf gb127 (fl hw130_0 GW127)).trans (((cf gb127 (fl hw130_0 GW127)).trans (((cf gb127 (fl hw130_0 GW127)).trans (hHeld.2.2.2.2.2.2.2))))))))))))))⟩ (fun hHeld => ?_); clear hK K; refine done_ (done_of HT_.out (by kernel_rfl)) ?_; (try go_wp2); refine bodyPost_ret (results_cell_row rfl _ _ gb127 93 #[.int .i64 ((rd_T32 l0_1 a1).f0), .int .i64 ((rd_T32 l0_1 a1).f1), .int .i64 ((rd_T32 l0_1 a1).f2), .int .i64 ((rd_T32 l0_1 a1).f3.f0), .int .i64 ((rd_T32 l0_1 a1).f3.f1), .int .i64 a2, .int .i64 (rd l0_0 ((rd_T32 l0_1 a1).f2))] (0, 0) _ rfl (by refine uK ?_; refine blk_put (cs := #[.int .i64 ((rd_T32 l0_1 a1).f0), .int .i64 ((rd_T32 l0_1 a1).f1), .int .i64 ((rd_T32 l0_1 a1).f2), .int .i64 ((rd_T32 l0_1 a1).f3.f0), .int .i64 ((rd_T32 l0_1 a1).f3.f1), .int .i64 a2, .int .i64 0]) ?_ 6 _ rfl; refine uK ?_; refine blk_put (cs := #[.int .i64 ((rd_T32 l0_1 a1).f0), .int .i64 ((rd_T32 l0_1 a1).f1), .int .i64 ((rd_T32 l0_1 a1).f2), .int .i64 ((rd_T32 l0_1 a1).f3.f0), .int .i64 ((rd_T32 l0_1 a1).f3.f1), .int .i64 0, .int .i64 0]) ?_ 5 _ rfl; refine uK ?_; refine blk_put (cs := #[.int .i64 ((rd_T32 l0_1 a1).f0), .int .i64 ((rd_T32 l0_1 a1).f1), .int .i64 ((rd_T32 l0_1 a1).f2), .int .i64 ((rd_T32 l0_1 a1).f3.f0), .int .i64 0, .int .i64 0, .int .i64 0]) ?_ 4 _ rfl; refine uK ?_; refine blk_put (cs := #[.int .i64 ((rd_T32 l0_1 a1).f0), .int .i64 ((rd_T32 l0_1 a1).f1), .int .i64 ((rd_T32 l0_1 a1).f2), .int .i64 0, .int .i64 0, .int .i64 0, .int .i64 0]) ?_ 3 _ rfl; refine uK ?_; refine blk_put (cs := #[.int .i64 ((rd_T32 l0_1 a1).f0), .int .i64 ((rd_T32 l0_1 a1).f1), .int .i64 0, .int .i64 0, .int .i64 0, .int .i64 0, .int .i64 0]) ?_ 2 _ rfl; refine uK ?_; refine blk_put (cs := #[.int .i64 ((rd_T32 l0_1 a1).f0), .int .i64 0, .int .i64 0, .int .i64 0, .int .i64 0, .int .i64 0, .int .i64 0]) ?_ 1 _ rfl; refine uK ?_; refine blk_put (cs := #[.int .i64 0, .int .i64 0, .int .i64 0, .int .i64 0, .int .i64 0, .int .i64 0, .int .i64 0]) ?_ 0 _ rfl; refine uK ?_; exact BK127.out) Tryz.underlying93 rfl (by kernel_rfl)) rfl ?_; exact ⟨uE, uB⟩
end Go.Proofs.YtdmdahafiiggiaaGreatDoor.K
end
section
namespace Go.Proofs.YtdmdahafiiggiaaGreatDoor.K
open Go.RowKit Go.Proofs.YtdmdahafiiggiaaGreatDoorW.PrintWords Go.Proofs.YtdmdahafiiggiaaGreatDoorW.PrintLast Go.Proofs.YtdmdahafiiggiaaGreatDoorW.PrintMore
attribute [local go_sem] max2_int min2_int max_two min_two max_three min_three max_four min_four
def channel_aged_cups.f (a0_0 : Int) (a0_1 : Int) (a0_2 : Int) (a0_3 : Int) (a0_4 : Int) (a0_5 : Int) (a0_6 : Int) (a1 : Int) : Option (Int) := some (wrap64 ((wrap64 ((mx 0 (wrap64 (a0_0 - (wrap64 (2 * (wrap64 (Int.tdiv (wrap64 (a1 * a0_5)) 100))))))) * (mx 0 (wrap64 (a0_1 - (wrap64 (Int.tdiv (wrap64 (a1 * a0_5)) 100))))))) * a0_6))
set_option maxHeartbeats 8000000 in
set_option maxRecDepth 100000 in
theorem channel_aged_cups.calls (a0_0 : Int) (a0_1 : Int) (a0_2 : Int) (a0_3 : Int) (a0_4 : Int) (a0_5 : Int) (a0_6 : Int) (a1 : Int) (r : Int) (w : World) (h : channel_aged_cups.f a0_0 a0_1 a0_2 a0_3 a0_4 a0_5 a0_6 a1 = some r) :
  Calls Tryz.prog 103 #[.agg #[.int .i64 a0_0, .int .i64 a0_1, .int .i64 a0_2, .int .i64 a0_3, .int .i64 a0_4, .int .i64 a0_5, .int .i64 a0_6], .int .i64 a1] w fun e w' => e = .returned (.int .i64 r) ∧ Below w.heap.size w w' := by
 have hu93 := Tryz.underlying93; have HB := Aside0.mk (Below.refl w.heap.size w); have H : (some (wrap64 ((wrap64 ((mx 0 (wrap64 (a0_0 - (wrap64 (2 * (wrap64 (Int.tdiv (wrap64 (a1 * a0_5)) 100))))))) * (mx 0 (wrap64 (a0_1 - (wrap64 (Int.tdiv (wrap64 (a1 * a0_5)) 100))))))) * a0_6))) = some r := h; clear h; obtain ⟨ji3, hji3⟩ : ∃ j_ : Int, (mx 0 (wrap64 (a0_0 - (wrap64 (2 * (wrap64 (Int.tdiv (wrap64 (a1 * a0_5)) 100))))))) = j_ := ⟨_, rfl⟩; rw [hji3] at H; (try (have hji3l : 0 ≤ ji3 := by (rw [← hji3]; unfold mx; (repeat' split) <;> omega))); (try (have hji3m : 0 ≤ ji3 := by omega)); have hji3_ : (if 0 < (wrap64 (a0_0 - (wrap64 (2 * (wrap64 (Int.tdiv (wrap64 (a1 * a0_5)) 100)))))) then (wrap64 (a0_0 - (wrap64 (2 * (wrap64 (Int.tdiv (wrap64 (a1 * a0_5)) 100)))))) else 0) = ji3 := hji3; obtain ⟨ji4, hji4⟩ : ∃ j_ : Int, (mx 0 (wrap64 (a0_1 - (wrap64 (Int.tdiv (wrap64 (a1 * a0_5)) 100))))) = j_ := ⟨_, rfl⟩; rw [hji4] at H; (try (have hji4l : 0 ≤ ji4 := by (rw [← hji4]; unfold mx; (repeat' split) <;> omega))); (try (have hji4m : 0 ≤ ji4 := by omega)); have hji4_ : (if 0 < (wrap64 (a0_1 - (wrap64 (Int.tdiv (wrap64 (a1 * a0_5)) 100)))) then (wrap64 (a0_1 - (wrap64 (Int.tdiv (wrap64 (a1 * a0_5)) 100)))) else 0) = ji4 := hji4; obtain rfl := Option.some.inj H
 go_enter Tryz.func103, Tryz.ntmps103
 go_wp2_with (first | ((with_reducible refine gate_dst (N := 2) rfl ?_); refine bxe 2 #[.int .i64 a0_0, .int .i64 a0_1, .int .i64 a0_2, .int .i64 a0_3, .int .i64 a0_4, .int .i64 a0_5, .int .i64 a0_6] 93 ?_; intro gb101 hg w5 hbox hb; have n0_ := Aside0.mk (below_step HB.out hb); have n1_ := Aside0.mk (hbox); have n2_ := gw hg; have n3_ := n2_; clear HB; have HB := n0_; have BK101 := n1_; have GW101 := n2_; have GE101 := n3_; clear n0_ n1_ n2_ n3_; clear hb hbox hg; obtain ⟨hcz6_0, hcz6_1, hcz6_2, hcz6_3, hcz6_4, hcz6_5, hcz6_6⟩ := cz7 BK101.out; obtain ⟨hfz6_0, hfz6_1, hfz6_2, hfz6_3, hfz6_4, hfz6_5, hfz6_6⟩ := fz7 BK101.out))
 go_ret; exact ⟨by first | rfl | (simp [errW_none, errW_some] <;> rfl) | (simp only [← hji3, ← hji4]; first | rfl | (simp [errW_none, errW_some] <;> rfl)) | (simp [*, errW_none, errW_some] <;> rfl), uB⟩
end Go.Proofs.YtdmdahafiiggiaaGreatDoor.K
end
section
namespace Go.Proofs.YtdmdahafiiggiaaGreatDoor.K
open Go.RowKit Go.Proofs.YtdmdahafiiggiaaGreatDoorW.PrintWords Go.Proofs.YtdmdahafiiggiaaGreatDoorW.PrintLast Go.Proofs.YtdmdahafiiggiaaGreatDoorW.PrintMore
attribute [local go_sem] max2_int min2_int max_two min_two max_three min_three max_four min_four
def channel_aged_least.f (a0_0 : Int) (a0_1 : Int) (a0_2 : Int) (a0_3 : Int) (a0_4 : Int) (a0_5 : Int) (a0_6 : Int) : Option (Int) := (channel_aged_cups.f a0_0 a0_1 a0_2 a0_3 a0_4 a0_5 a0_6 a0_4).bind fun t202 => (some t202)
set_option maxHeartbeats 8000000 in
set_option maxRecDepth 100000 in
theorem channel_aged_least.calls (a0_0 : Int) (a0_1 : Int) (a0_2 : Int) (a0_3 : Int) (a0_4 : Int) (a0_5 : Int) (a0_6 : Int) (r : Int) (w : World) (h : channel_aged_least.f a0_0 a0_1 a0_2 a0_3 a0_4 a0_5 a0_6 = some r) :
  Calls Tryz.prog 65 #[.agg #[.int .i64 a0_0, .int .i64 a0_1, .int .i64 a0_2, .int .i64 a0_3, .int .i64 a0_4, .int .i64 a0_5, .int .i64 a0_6]] w fun e w' => e = .returned (.int .i64 r) ∧ Below w.heap.size w w' := by
 have hu93 := Tryz.underlying93; have HB := Aside0.mk (Below.refl w.heap.size w); have H : ((channel_aged_cups.f a0_0 a0_1 a0_2 a0_3 a0_4 a0_5 a0_6 a0_4).bind fun t202 => (some t202)) = some r := h; clear h; replace H := Option.bind_eq_some_iff.mp H; obtain ⟨t202, A20, H⟩ := H; replace H : (some t202) = some r := H; have A2 := Aside0.mk A20; clear A20; obtain rfl := Option.some.inj H
 go_enter Tryz.func65, Tryz.ntmps65
 go_wp2_with (first | ((with_reducible refine gate_dst (N := 1) rfl ?_); refine bxe 1 #[.int .i64 a0_0, .int .i64 a0_1, .int .i64 a0_2, .int .i64 a0_3, .int .i64 a0_4, .int .i64 a0_5, .int .i64 a0_6] 93 ?_; intro gb201 hg w3 hbox hb; have n0_ := Aside0.mk (below_step HB.out hb); have n1_ := Aside0.mk (hbox); have n2_ := gw hg; have n3_ := n2_; clear HB; have HB := n0_; have BK201 := n1_; have GW201 := n2_; have GE201 := n3_; clear n0_ n1_ n2_ n3_; clear hb hbox hg; obtain ⟨hcz4_0, hcz4_1, hcz4_2, hcz4_3, hcz4_4, hcz4_5, hcz4_6⟩ := cz7 BK201.out; obtain ⟨hfz4_0, hfz4_1, hfz4_2, hfz4_3, hfz4_4, hfz4_5, hfz4_6⟩ := fz7 BK201.out) | ((with_reducible refine gate_callee (f := 103) rfl ?_); refine goesL_ (some 8) rfl rfl Tryz.func103 (by kernel_rfl) rfl #[.agg #[.int .i64 a0_0, .int .i64 a0_1, .int .i64 a0_2, .int .i64 a0_3, .int .i64 a0_4, .int .i64 a0_5, .int .i64 a0_6], .int .i64 a0_4] rfl uM ?_; (with_reducible refine (channel_aged_cups.calls a0_0 a0_1 a0_2 a0_3 a0_4 a0_5 a0_6 a0_4 t202 _ A2.out).mono ?_); rintro e w5 ⟨rfl, hb⟩; refine ⟨_, rfl, ?_⟩; replace BK201 := Aside0.mk (blk_below BK201.out hb); replace HB := Aside0.mk (below_step HB.out hb); (try clear hb)))
 go_ret; exact ⟨uE, uB⟩
end Go.Proofs.YtdmdahafiiggiaaGreatDoor.K
end
section
namespace Go.Proofs.YtdmdahafiiggiaaGreatDoor.K
open Go.RowKit Go.Proofs.YtdmdahafiiggiaaGreatDoorW.PrintWords Go.Proofs.YtdmdahafiiggiaaGreatDoorW.PrintLast Go.Proofs.YtdmdahafiiggiaaGreatDoorW.PrintMore
attribute [local go_sem] max2_int min2_int max_two min_two max_three min_three max_four min_four
def channel_latest.l0 : Nat → Int → Int → Int → Int → List Int → List (S32) → Option (Int)
 | 0, _, _, _, _, _, _ => none
 | k + 1, x1, x2, x7, x9, x204000, x204001 => if x9 < 201 then ((channel_aging.f x204000 x204001 x1 x9).bind fun bt204 => ((channel_aged_least.f bt204.1 bt204.2.1 bt204.2.2.1 bt204.2.2.2.1 bt204.2.2.2.2.1 bt204.2.2.2.2.2.1 bt204.2.2.2.2.2.2).bind fun t211 => (if t211 < x2 then (some x7) else (channel_latest.l0 k x1 x2 x9 (wrap64 (x9 + 1)) x204000 x204001)))) else (some x7)
def channel_latest.f (k : Nat) (l0_0 : List Int) (l0_1 : List (S32)) (a1 : Int) (a2 : Int) : Option (Int) := channel_latest.l0 k a1 a2 (-1) 0 l0_0 l0_1
set_option maxHeartbeats 8000000 in
set_option maxRecDepth 100000 in
theorem channel_latest.calls (k : Nat) (A0_0 : Option Addr) (c0_0 : Nat) (l0_0 : List Int) (A0_1 : Option Addr) (c0_1 : Nat) (l0_1 : List (S32)) (a1 : Int) (a2 : Int) (r : Int) (w : World) (hr0_0 : Kd.C (Kd.int .i64) w A0_0 l0_0.length l0_0) (hc0_0 : l0_0.length ≤ c0_0) (hr0_1 : Kd.C k32 w A0_1 l0_1.length l0_1) (hc0_1 : l0_1.length ≤ c0_1) (h : channel_latest.f k l0_0 l0_1 a1 a2 = some r) :
  Calls Tryz.prog 64 #[.agg #[.slice A0_0 l0_0.length c0_0, .slice A0_1 l0_1.length c0_1], .int .i64 a1, .int .i64 a2] w fun e w' => e = .returned (.int .i64 r) ∧ Below w.heap.size w w' := by
 have hu25 := Tryz.underlying25; have HR0_0 := Aside0.mk hr0_0; have HC0_0 := Aside0.mk hc0_0; clear hr0_0 hc0_0; have HR0_1 := Aside0.mk hr0_1; have HC0_1 := Aside0.mk hc0_1; clear hr0_1 hc0_1; have HB := Aside0.mk (Below.refl w.heap.size w); have H : (channel_latest.l0 k a1 a2 (-1) 0 l0_0 l0_1) = some r := h; clear h; have H' := Aside0.mk H; clear H
 go_enter Tryz.func64, Tryz.ntmps64
 go_wp2_with (first | ((with_reducible refine gate_dst (N := 3) rfl ?_); refine bxe 3 #[.slice A0_0 l0_0.length c0_0, .slice A0_1 l0_1.length c0_1] 25 ?_; intro gb203 hg w4 hbox hb; have n0_ := Aside0.mk (below_step HB.out hb); have n1_ := Aside0.mk (hbox); have n2_ := gw hg; have n3_ := n2_; clear HB; have HB := n0_; have BK203 := n1_; have GW203 := n2_; have GE203 := n3_; clear n0_ n1_ n2_ n3_; clear hb hbox hg))
 go_loopg [7, 9] k (fun kq v7 v9 w' => ∃ (x7_1 : Int) (x9_1 : Int), v7 = .int .i64 x7_1 ∧ v9 = .int .i64 x9_1 ∧ Aside0 (channel_latest.l0 kq a1 a2 x7_1 x9_1 l0_0 l0_1 = some r) ∧ Aside0 (kq ≤ k) ∧ Aside0 (w'.heap[gb203]? = some (.cells #[(.slice A0_0 l0_0.length c0_0), (.slice A0_1 l0_1.length c0_1)] 25 (0, 0))) ∧ Aside0 (Below w.heap.size w w'))
 case atStart => exact ⟨((-1)), (0), u0, u0, H', ⟨Nat.le_refl _⟩, ⟨uK BK203.out⟩, ⟨uB⟩⟩
 case round =>
  clear H'; (try clear p2); obtain ⟨x7_1, x9_1, rfl, rfl, HA, HK1, BK203, HB⟩ := hrel
  cases gk with
  | zero => exact absurd HA.out (by simp [channel_latest.l0])
  | succ k1 =>
   have H := HA.out; clear HA; simp only [channel_latest.l0] at H
   by_cases c5 : x9_1 < 201
   ·rw [if_pos c5] at H; replace c5 := decide_eq_true c5; replace H := Option.bind_eq_some_iff.mp H; obtain ⟨⟨t204, t205, t206, t207, t208, t209, t210⟩, A60, H⟩ := H; replace H : ((channel_aged_least.f t204 t205 t206 t207 t208 t209 t210).bind fun t211 => (if t211 < a2 then (some x7_1) else (channel_latest.l0 k1 a1 a2 x9_1 (wrap64 (x9_1 + 1)) l0_0 l0_1))) = some r := H; have A6 := Aside0.mk A60; clear A60; replace H := Option.bind_eq_some_iff.mp H; obtain ⟨t211, A70, H⟩ := H; replace H : (if t211 < a2 then (some x7_1) else (channel_latest.l0 k1 a1 a2 x9_1 (wrap64 (x9_1 + 1)) l0_0 l0_1)) = some r := H; have A7 := Aside0.mk A70; clear A70
    by_cases c8 : t211 < a2
    ·rw [if_pos c8] at H; replace c8 := decide_eq_true c8; obtain rfl := Option.some.inj H; obtain ⟨hcz9_0, hcz9_1⟩ := cz2 BK203.out; obtain ⟨hfz9_0, hfz9_1⟩ := fz2 BK203.out
     go_wp2_with (first | ((with_reducible refine gate_callee (f := 57) rfl ?_); refine goesL_ (some 15) rfl rfl Tryz.func57 (by kernel_rfl) rfl #[.agg #[.slice A0_0 l0_0.length c0_0, .slice A0_1 l0_1.length c0_1], .int .i64 a1, .int .i64 x9_1] rfl uM ?_; (with_reducible refine (channel_aging.calls _ _ l0_0 _ _ l0_1 a1 x9_1 t204 t205 t206 t207 t208 t209 t210 _ ?side1 ?side2 ?side3 ?side4 A6.out).mono ?_); (case side1 => exact Kd.C_below HR0_0.out HB.out); (case side2 => exact HC0_0.out); (case side3 => exact Kd.C_below HR0_1.out HB.out); (case side4 => exact HC0_1.out); rintro e w10 ⟨rfl, hb⟩; refine ⟨_, rfl, ?_⟩; replace BK203 := Aside0.mk (blk_below BK203.out hb); replace HB := Aside0.mk (below_step HB.out hb); (try clear hb); (try clear hb2); (try clear hk); (try clear hi)) | ((with_reducible refine gate_callee (f := 65) rfl ?_); refine goesL_ (some 16) rfl rfl Tryz.func65 (by kernel_rfl) rfl #[.agg #[.int .i64 t204, .int .i64 t205, .int .i64 t206, .int .i64 t207, .int .i64 t208, .int .i64 t209, .int .i64 t210]] rfl uM ?_; (with_reducible refine (channel_aged_least.calls t204 t205 t206 t207 t208 t209 t210 t211 _ A7.out).mono ?_); rintro e w11 ⟨rfl, hb⟩; refine ⟨_, rfl, ?_⟩; replace BK203 := Aside0.mk (blk_below BK203.out hb); replace HB := Aside0.mk (below_step HB.out hb); (try clear hb); (try clear hb2); (try clear hk); (try clear hi)))
     go_ret; exact ⟨uE, uB⟩
    ·rw [if_neg c8] at H; replace c8 := decide_eq_false c8; have H' := Aside0.mk H; clear H; obtain ⟨hcz12_0, hcz12_1⟩ := cz2 BK203.out; obtain ⟨hfz12_0, hfz12_1⟩ := fz2 BK203.out
     go_wp2_with (first | ((with_reducible refine gate_callee (f := 57) rfl ?_); refine goesL_ (some 15) rfl rfl Tryz.func57 (by kernel_rfl) rfl #[.agg #[.slice A0_0 l0_0.length c0_0, .slice A0_1 l0_1.length c0_1], .int .i64 a1, .int .i64 x9_1] rfl uM ?_; (with_reducible refine (channel_aging.calls _ _ l0_0 _ _ l0_1 a1 x9_1 t204 t205 t206 t207 t208 t209 t210 _ ?side1 ?side2 ?side3 ?side4 A6.out).mono ?_); (case side1 => exact Kd.C_below HR0_0.out HB.out); (case side2 => exact HC0_0.out); (case side3 => exact Kd.C_below HR0_1.out HB.out); (case side4 => exact HC0_1.out); rintro e w13 ⟨rfl, hb⟩; refine ⟨_, rfl, ?_⟩; replace BK203 := Aside0.mk (blk_below BK203.out hb); replace HB := Aside0.mk (below_step HB.out hb); (try clear hb); (try clear hb2); (try clear hk); (try clear hi)) | ((with_reducible refine gate_callee (f := 65) rfl ?_); refine goesL_ (some 16) rfl rfl Tryz.func65 (by kernel_rfl) rfl #[.agg #[.int .i64 t204, .int .i64 t205, .int .i64 t206, .int .i64 t207, .int .i64 t208, .int .i64 t209, .int .i64 t210]] rfl uM ?_; (with_reducible refine (channel_aged_least.calls t204 t205 t206 t207 t208 t209 t210 t211 _ A7.out).mono ?_); rintro e w14 ⟨rfl, hb⟩; refine ⟨_, rfl, ?_⟩; replace BK203 := Aside0.mk (blk_below BK203.out hb); replace HB := Aside0.mk (below_step HB.out hb); (try clear hb); (try clear hb2); (try clear hk); (try clear hi)))
     go_roundg k1
     case measure => have := HK1.out; omega
     case rel => exact ⟨(x9_1), (wrap64 (x9_1 + 1)), u0, u0, H', ⟨by have := HK1.out; omega⟩, ⟨uK BK203.out⟩, ⟨uB⟩⟩
   ·rw [if_neg c5] at H; replace c5 := decide_eq_false c5; obtain rfl := Option.some.inj H; go_wp2; go_ret; exact ⟨uE, uB⟩
end Go.Proofs.YtdmdahafiiggiaaGreatDoor.K
end
section
namespace Go.Proofs.YtdmdahafiiggiaaGreatDoor.K
open Go.RowKit Go.Proofs.YtdmdahafiiggiaaGreatDoorW.PrintWords Go.Proofs.YtdmdahafiiggiaaGreatDoorW.PrintLast Go.Proofs.YtdmdahafiiggiaaGreatDoorW.PrintMore
attribute [local go_sem] max2_int min2_int max_two min_two max_three min_three max_four min_four
mutual
def channel_greatest.l0 : Nat → List Int → List Int → Int → Option (List Int × Bool)
 | 0, _, _, _ => none
 | k + 1, x0, x4, x5 => if x5 ≥ 0 then (channel_greatest.j1 k x0 x4 x5 (decide ((x4.length : Int) < (x0.length : Int)))) else (channel_greatest.j1 k x0 x4 x5 false)
def channel_greatest.j1 : Nat → List Int → List Int → Int → Bool → Option (List Int × Bool)
 | 0, _, _, _, _ => none
 | k + 1, x0, x4, x5, x17 => if x17 = true then (channel_greatest.l1 k x0 x4 x5 0 x0 (x0.length : Int) 0) else (some (x4, ((x4.length : Int) == (x0.length : Int))))
def channel_greatest.l1 : Nat → List Int → List Int → Int → Int → List Int → Int → Int → Option (List Int × Bool)
 | 0, _, _, _, _, _, _, _ => none
 | k + 1, x0, x4, x5, x6, x20, x21, x22 => if x22 < x21 then (if 0 ≤ x22 then (if x22 < (x20.length : Int) then (if (rd x20 x22) ≥ x5 then (channel_greatest.l1 k x0 x4 x5 (wrap64 (x6 + 1)) x20 x21 (wrap64 (x22 + 1))) else (channel_greatest.l1 k x0 x4 x5 x6 x20 x21 (wrap64 (x22 + 1)))) else (none)) else (none)) else (if x6 > (x4.length : Int) then (if x4.length < 17592186044416 then (channel_greatest.l0 k x0 (x4 ++ [x5]) (wrap64 (x5 - 1))) else (none)) else (channel_greatest.l0 k x0 x4 (wrap64 (x5 - 1))))
end
def channel_greatest.f (k : Nat) (l0 : List Int) : Option (List Int × Bool) := channel_greatest.l0 k l0 ([] : List Int) 40
set_option maxHeartbeats 8000000 in
set_option maxRecDepth 100000 in
theorem channel_greatest.calls (k : Nat) (A0 : Option Addr) (c0 : Nat) (l0 : List Int) (r1 : List Int) (r2 : Bool) (w : World) (hr0 : Kd.C (Kd.int .i64) w A0 l0.length l0) (hc0 : l0.length ≤ c0) (h : channel_greatest.f k l0 = some (r1, r2)) :
  Calls Tryz.prog 68 #[.slice A0 l0.length c0] w fun e w' => ∃ v0_ : Value, e = .returned (.tuple #[v0_, .bool r2]) ∧ Kd.R (Kd.int .i64) 3 w' w.heap.size (fun _ => True) v0_ r1 ∧ Below w.heap.size w w' := by
 have HR0 := Aside0.mk hr0; have HC0 := Aside0.mk hc0; clear hr0 hc0; have HB := Aside0.mk (Below.refl w.heap.size w); have H : (channel_greatest.l0 k l0 ([] : List Int) 40) = some (r1, r2) := h; clear h; have H' := Aside0.mk H; clear H
 go_enter Tryz.func68, Tryz.ntmps68
 go_wp2
 go_loopg [4, 5] k (fun kq v4 v5 w' => ∃ (x4_1 : List Int) (x5_1 : Int), v5 = .int .i64 x5_1 ∧ Aside0 (channel_greatest.l0 kq l0 x4_1 x5_1 = some (r1, r2)) ∧ Aside0 (kq ≤ k) ∧ Aside0 (Kd.R (Kd.int .i64) 3 w' w.heap.size (fun _ => True) v4 x4_1) ∧ Aside0 (Below w.heap.size w w'))
 case atStart => exact ⟨(([] : List Int)), (40), u0, H', ⟨Nat.le_refl _⟩, ⟨uN⟩, ⟨uB⟩⟩
 case round =>
  clear H'; obtain ⟨x4_1, x5_1, rfl, HA, HK1, HO_4, HB⟩ := hrel
  cases gk with
  | zero => exact absurd HA.out (by simp [channel_greatest.l0])
  | succ k1 =>
   have H := HA.out; clear HA; simp only [channel_greatest.l0] at H; have HC2 := Aside0.mk H; clear H
   go_upto_region 3 with (fail)
   go_cut [17] (fun v17 wc => ∃ (kq : Nat) (x17_1 : Bool), v17 = .bool x17_1 ∧ Aside0 (channel_greatest.j1 kq l0 x4_1 x5_1 x17_1 = some (r1, r2)) ∧ Aside0 (kq ≤ k1) ∧ Aside0 (Kd.R (Kd.int .i64) 3 wc w.heap.size (fun _ => True) u4 x4_1) ∧ Aside0 (Below w.heap.size w wc))
   case first =>
    have H := HC2.out; clear HC2
    by_cases c3 : x5_1 ≥ 0
    ·rw [if_pos c3] at H; replace c3 := decide_eq_true c3; (first | rw [c3b0] | (simp only [i64_w, i32_w]; rw [c3b0]) | skip); have H' := Aside0.mk H; clear H; obtain ⟨Ao4, co4, eo4⟩ := Kd.R_slice HO_4.out; subst eo4; go_wp2
     go_meet
     case rel => exact ⟨_, (decide ((x4_1.length : Int) < (l0.length : Int))), u0, H', ⟨by have := HK1.out; first | omega | exact Nat.le_refl _⟩, ⟨uR HO_4.out⟩, ⟨uB⟩⟩
    ·rw [if_neg c3] at H; replace c3 := decide_eq_false c3; (first | rw [c3b0] | (simp only [i64_w, i32_w]; rw [c3b0]) | skip); have H' := Aside0.mk H; clear H; go_wp2
     go_meet
     case rel => exact ⟨_, (false), u0, H', ⟨by have := HK1.out; first | omega | exact Nat.le_refl _⟩, ⟨uR HO_4.out⟩, ⟨uB⟩⟩
   case rest =>
    clear HC2; try clear p2; try clear c3; try clear c3b0
    obtain ⟨kq, x17_1, rfl, HA, HJ1, HO_4, HB⟩ := hcut
    cases kq with
    | zero => exact absurd HA.out (by simp [channel_greatest.j1])
    | succ kj1 =>
     have H := HA.out; clear HA; simp only [channel_greatest.j1] at H
     by_cases c5 : x17_1 = true
     ·subst c5; have H1 : (channel_greatest.l1 kj1 l0 x4_1 x5_1 0 l0 (l0.length : Int) 0) = some (r1, r2) := by rw [if_pos rfl] at H; exact H
      clear H; have H := H1; clear H1; have H' := Aside0.mk H; clear H; go_wp2
      go_loopg [6, 22] kj1 (fun kq v6 v22 w' => ∃ (x6_3 : Int) (x22_3 : Int), v6 = .int .i64 x6_3 ∧ v22 = .int .i64 x22_3 ∧ Aside0 (channel_greatest.l1 kq l0 x4_1 x5_1 x6_3 l0 (l0.length : Int) x22_3 = some (r1, r2)) ∧ Aside0 (kq ≤ kj1) ∧ Aside0 (Kd.R (Kd.int .i64) 3 w' w.heap.size (fun _ => True) u4 x4_1) ∧ Aside0 (Below w.heap.size w w'))
      case atStart => exact ⟨(0), (0), u0, u0, H', ⟨Nat.le_refl _⟩, ⟨uR HO_4.out⟩, ⟨uB⟩⟩
      case round =>
       clear H'; try clear p2; try clear c3; try clear c3b0; try clear c5; try clear p2
       obtain ⟨x6_3, x22_3, rfl, rfl, HA, HK3, HO_4, HB⟩ := hrel
       cases gk with
       | zero => exact absurd HA.out (by simp [channel_greatest.l1])
       | succ k3 =>
        have H := HA.out; clear HA; simp only [channel_greatest.l1] at H
        by_cases c6 : x22_3 < (l0.length : Int)
        ·rw [if_pos c6] at H; replace c6 := decide_eq_true c6; obtain ⟨c7, H⟩ := ifs H; replace c7 := decide_eq_true c7; obtain ⟨c8, H⟩ := ifs H; replace c8 := decide_eq_true c8
         by_cases c9 : (rd l0 x22_3) ≥ x5_1
         ·rw [if_pos c9] at H; replace c9 := decide_eq_true c9; have H' := Aside0.mk H; clear H; have p237 : 0 ≤ (x22_3 : Int) := uD; have q237 : x22_3 < (l0.length : Int) := uD; obtain ⟨ad237, e237, hx237_0⟩ := Kd.at_int HR0.out x22_3 p237 q237
          cases e237
          replace hx237_0 := hcell HB.out hx237_0; replace p237 := eq_true p237; replace q237 := eq_true q237; go_wp2
          go_roundg k3
          case measure => have := HK1.out; have := HJ1.out; have := HK3.out; omega
          case rel => exact ⟨(wrap64 (x6_3 + 1)), (wrap64 (x22_3 + 1)), u0, u0, H', ⟨by have := HK1.out; have := HJ1.out; have := HK3.out; omega⟩, ⟨uR HO_4.out⟩, ⟨uB⟩⟩
         ·rw [if_neg c9] at H; replace c9 := decide_eq_false c9; have H' := Aside0.mk H; clear H; have p237 : 0 ≤ (x22_3 : Int) := uD; have q237 : x22_3 < (l0.length : Int) := uD; obtain ⟨ad237, e237, hx237_0⟩ := Kd.at_int HR0.out x22_3 p237 q237
          cases e237
          replace hx237_0 := hcell HB.out hx237_0; replace p237 := eq_true p237; replace q237 := eq_true q237; go_wp2
          go_roundg k3
          case measure => have := HK1.out; have := HJ1.out; have := HK3.out; omega
          case rel => exact ⟨(x6_3), (wrap64 (x22_3 + 1)), u0, u0, H', ⟨by have := HK1.out; have := HJ1.out; have := HK3.out; omega⟩, ⟨uR HO_4.out⟩, ⟨uB⟩⟩
        ·rw [if_neg c6] at H; replace c6 := decide_eq_false c6
         by_cases c10 : x6_3 > (x4_1.length : Int)
         ·rw [if_pos c10] at H; replace c10 := decide_eq_true c10; obtain ⟨c11, H⟩ := ifs H; have LMc11 := Aside0.mk c11; clear c11; obtain ⟨y238, hy238⟩ : ∃ y_ : List Int, y_ = (x4_1 ++ [x5_1]) := ⟨_, rfl⟩; rw [← hy238] at H; have Ny238 := Aside0.mk hy238; clear hy238; have H' := Aside0.mk H; clear H; obtain ⟨Ao12, co12, eo12⟩ := Kd.R_slice HO_4.out; subst eo12
          go_wp2_with (first | ((with_reducible refine gate_builtin (b := .append) (xs := #[.tmp 36, .tmp 38]) rfl ?_); (try (refine gate_guard (by rfl) ?_; dsimp only)); at_builtin; refine Kd.R_append (Kd.int .i64) (w0 := w) w.heap.size rfl (.tmp 36) (.tmp 38) 22 3 (.int .i64 0) 8 rfl Tryz.underlying22 info3 rfl (by decide) (by omega) (.slice Ao12 x4_1.length co12) x4_1 x5_1 [.int .i64 x5_1] (fun _ => True) (fun _ => False) rfl rfl ?aP (fun _ hk => hk.elim) ?aF ?aO ?aB ?aS ?aL ?_; (case aP => exact rfl); (case aB => exact uB); (case aF => exact (fun _ _ => trivial)); (case aO => exact (uR HO_4.out)); (case aS => exact (below_size uB)); (case aL => have := LMc11.out; omega); intro v239 w13 ho hb hg hat; rw [← Ny238.out] at ho; have HO240 := Aside0.mk (ho); replace HB := Aside0.mk (hb); clear HO_4; clear ho hb hg hat))
          go_roundg k3
          case measure => have := HK1.out; have := HJ1.out; have := HK3.out; omega
          case rel => exact ⟨(y238), (wrap64 (x5_1 - 1)), u0, H', ⟨by have := HK1.out; have := HJ1.out; have := HK3.out; omega⟩, ⟨uR HO240.out⟩, ⟨uB⟩⟩
         ·rw [if_neg c10] at H; replace c10 := decide_eq_false c10; have H' := Aside0.mk H; clear H; obtain ⟨Ao14, co14, eo14⟩ := Kd.R_slice HO_4.out; subst eo14; go_wp2
          go_roundg k3
          case measure => have := HK1.out; have := HJ1.out; have := HK3.out; omega
          case rel => exact ⟨(x4_1), (wrap64 (x5_1 - 1)), u0, H', ⟨by have := HK1.out; have := HJ1.out; have := HK3.out; omega⟩, ⟨uR HO_4.out⟩, ⟨uB⟩⟩
     ·replace c5 := Bool.eq_false_iff.mpr c5; subst c5; have H1 : (some (x4_1, ((x4_1.length : Int) == (l0.length : Int)))) = some (r1, r2) := by rw [if_neg (show ¬ (false = true) by decide)] at H; exact H
      clear H; have H := H1; clear H1; simp only [Option.some.injEq, Prod.mk.injEq] at H; obtain ⟨rfl, rfl⟩ := H; obtain ⟨Ao15, co15, eo15⟩ := Kd.R_slice HO_4.out; subst eo15; go_wp2
      go_ret2
      exact ⟨_, uE, uR HO_4.out, uB⟩
end Go.Proofs.YtdmdahafiiggiaaGreatDoor.K
end
section
namespace Go.Proofs.YtdmdahafiiggiaaGreatDoor.K
open Go.RowKit Go.Proofs.YtdmdahafiiggiaaGreatDoorW.PrintWords Go.Proofs.YtdmdahafiiggiaaGreatDoorW.PrintLast Go.Proofs.YtdmdahafiiggiaaGreatDoorW.PrintMore
def carry (b d speed lime : Int) : Int := mx 0 (b - 2 * lime) * mx 0 (d - lime) * speed
def cupsN (sp : List Int) (st : List S32) (n age rate : Int) : Int := carry (rd_T32 st n).f0 (rd_T32 st n).f1 (rd sp (rd_T32 st n).f2) (rate * age / 100)
theorem mx_le {a b c : Int} (h1 : a ≤ c) (h2 : b ≤ c) : mx a b ≤ c := by unfold mx; split <;> omega
theorem mx_ge (a b : Int) : a ≤ mx a b ∧ b ≤ mx a b := by unfold mx; split <;> omega
theorem prod_range {x y z X Y Z : Int} (hx0 : 0 ≤ x) (hx : x ≤ X) (hy0 : 0 ≤ y) (hy : y ≤ Y) (hz0 : 0 ≤ z) (hz : z ≤ Z) : 0 ≤ x * y ∧ x * y ≤ X * Y ∧ 0 ≤ x * y * z ∧ x * y * z ≤ X * Y * Z := by
  have h1 : 0 ≤ x * y := Int.mul_nonneg hx0 hy0; have h2 : x * y ≤ X * Y := Int.mul_le_mul hx hy hy0 (by omega); exact ⟨h1, h2, Int.mul_nonneg h1 hz0, Int.mul_le_mul h2 hz hz0 (by have := Int.mul_nonneg (show 0 ≤ X by omega) (show 0 ≤ Y by omega); omega)⟩
theorem cups_f (b d f lo hi age speed rate : Int) (hb0 : 0 ≤ b) (hb : b ≤ 1000) (hd0 : 0 ≤ d) (hd : d ≤ 100) (ha0 : 0 ≤ age) (ha : age ≤ 200) (hs0 : 0 ≤ speed) (hs : speed ≤ 1000) (hr0 : 0 ≤ rate) (hr : rate ≤ 100) :
    channel_aged_cups.f b d f lo hi age speed rate = some (carry b d speed (rate * age / 100)) := by
  have h1 : 0 ≤ rate * age := Int.mul_nonneg hr0 ha0; have h2 : rate * age ≤ 100 * 200 := Int.mul_le_mul hr ha ha0 (by omega); unfold channel_aged_cups.f carry; have e1 : wrap64 (rate * age) = rate * age := IntWalk.wrap64_in _ (by omega); have e2 : (rate * age).tdiv 100 = rate * age / 100 := Int.tdiv_eq_ediv_of_nonneg h1; have hl0 : 0 ≤ rate * age / 100 := by omega
  have hl : rate * age / 100 ≤ 200 := by omega
  rw [e1, e2]; generalize rate * age / 100 = l at *; rw [IntWalk.wrap64_in l (by omega), IntWalk.wrap64_in (2 * l) (by omega), IntWalk.wrap64_in (b - 2 * l) (by omega), IntWalk.wrap64_in (d - l) (by omega)]; have hx := mx_ge 0 (b - 2 * l); have hx' := mx_le (show (0 : Int) ≤ 1000 by omega) (show b - 2 * l ≤ 1000 by omega); have hy := mx_ge 0 (d - l); have hy' := mx_le (show (0 : Int) ≤ 1000 by omega) (show d - l ≤ 1000 by omega); have hp := prod_range hx.1 hx' hy.1 hy' hs0 hs; rw [IntWalk.wrap64_in (mx 0 (b - 2 * l) * mx 0 (d - l)) (by omega), IntWalk.wrap64_in _ (by omega)]
structure StOk (sp : List Int) (s : S32) : Prop where
  b0 : 1 ≤ s.f0
  b1 : s.f0 ≤ 100
  d0 : 1 ≤ s.f1
  d1 : s.f1 ≤ 100
  f0 : 0 ≤ s.f2
  f1 : s.f2 < sp.length
  l0 : 0 ≤ s.f3.f0
  lh : s.f3.f0 ≤ s.f3.f1
  h1 : s.f3.f1 ≤ 100
  s0 : 1 ≤ rd sp s.f2
  s1 : rd sp s.f2 ≤ 1000
theorem line_lens {sp : List Int} {st : List S32} (h : isLineB sp st = true) : 1 ≤ sp.length ∧ sp.length ≤ 10 ∧ 1 ≤ st.length ∧ st.length ≤ 8 := by
  simp only [isLineB, inB, Bool.and_eq_true, decide_eq_true_eq] at h
  omega
theorem line_at {sp : List Int} {st : List S32} (h : isLineB sp st = true) {n : Int} (h0 : 0 ≤ n) (h1 : n < st.length) : StOk sp (rd_T32 st n) := by
  simp only [isLineB, inB, Bool.and_eq_true, decide_eq_true_eq] at h; have hlt : n.toNat < st.length := by omega
  have e : rd_T32 st n = st[n.toNat] := by simp [rd_T32, List.getD, List.getElem?_eq_getElem hlt]
  have hx := List.all_eq_true.mp h.2 _ (List.getElem_mem hlt); rw [← e] at hx; generalize rd_T32 st n = s at hx; simp only [stretchB, isSpanB, inB, Bool.and_eq_true, decide_eq_true_eq] at hx; have hf : s.f2.toNat < sp.length := by omega
  have es : rd sp s.f2 = sp[s.f2.toNat] := by simp [rd, List.getD, List.getElem?_eq_getElem hf]
  have hy := List.all_eq_true.mp h.1.2 _ (List.getElem_mem hf); rw [← es] at hy; simp only [inB, Bool.and_eq_true, decide_eq_true_eq] at hy; exact ⟨by omega, by omega, by omega, by omega, by omega, by omega, by omega, by omega, by omega, by omega, by omega⟩
theorem aging_ok {sp : List Int} {st : List S32} (h : isLineB sp st = true) {n : Int} (h0 : 0 ≤ n) (h1 : n < st.length) (age : Int) :
    channel_aging.f sp st n age = some ((rd_T32 st n).f0, (rd_T32 st n).f1, (rd_T32 st n).f2, (rd_T32 st n).f3.f0, (rd_T32 st n).f3.f1, age, rd sp (rd_T32 st n).f2) := by
  have hs := line_at h h0 h1; unfold channel_aging.f; rw [if_pos h0, if_pos h1, if_pos hs.f0, if_pos hs.f1]
def leastN (sp : List Int) (st : List S32) (n age : Int) : Int := cupsN sp st n age (rd_T32 st n).f3.f1
def mostN (sp : List Int) (st : List S32) (n age : Int) : Int := cupsN sp st n age (rd_T32 st n).f3.f0
theorem least_ok {sp : List Int} {st : List S32} (h : isLineB sp st = true) {n : Int} (h0 : 0 ≤ n) (h1 : n < st.length) {age : Int} (a0 : 0 ≤ age) (a1 : age ≤ 200) :
    channel_aged_least.f (rd_T32 st n).f0 (rd_T32 st n).f1 (rd_T32 st n).f2 (rd_T32 st n).f3.f0 (rd_T32 st n).f3.f1 age (rd sp (rd_T32 st n).f2) = some (leastN sp st n age) := by
  have hs := line_at h h0 h1; unfold channel_aged_least.f; rw [cups_f _ _ _ _ _ _ _ _ (by have := hs.b0; omega) (by have := hs.b1; omega) (by have := hs.d0; omega) hs.d1 a0 a1 (by have := hs.s0; omega) hs.s1 (by have := hs.l0; have := hs.lh; omega) hs.h1]
  rfl
def latFrom (sp : List Int) (st : List S32) (n need : Int) : Nat → Int → Int
  | 0, age => age - 1
  | k + 1, age => if leastN sp st n age < need then age - 1 else latFrom sp st n need k (age + 1)
def latN (sp : List Int) (st : List S32) (n need : Int) : Int := latFrom sp st n need 201 0
theorem lat_range (sp : List Int) (st : List S32) (n need : Int) : ∀ (k : Nat) (age : Int), age - 1 ≤ latFrom sp st n need k age ∧ latFrom sp st n need k age ≤ age - 1 + k
  | 0, age => by simp [latFrom]
  | k + 1, age => by
    unfold latFrom; have := lat_range sp st n need k (age + 1)
    split <;> omega
theorem latN_range (sp : List Int) (st : List S32) (n need : Int) : -1 ≤ latN sp st n need ∧ latN sp st n need ≤ 200 := by
  have := lat_range sp st n need 201 0; unfold latN
  omega
theorem latest_from {sp : List Int} {st : List S32} (h : isLineB sp st = true) {n : Int} (h0 : 0 ≤ n) (h1 : n < st.length) (need : Int) : ∀ (k : Nat) (j : Nat), (k : Int) + j = 201 → ∀ K, k < K →
    channel_latest.l0 K n need ((j : Int) - 1) (j : Int) sp st = some (latFrom sp st n need k (j : Int))
  | 0, j, hj, K + 1, hK => by
    unfold channel_latest.l0 latFrom; rw [if_neg (by omega)]
  | k + 1, j, hj, K + 1, hK => by
    unfold channel_latest.l0 latFrom; rw [if_pos (by omega), aging_ok h h0 h1]; simp only [Option.bind_some]; rw [least_ok h h0 h1 (by omega) (by omega)]; simp only [Option.bind_some]
    by_cases hc : leastN sp st n j < need
    · rw [if_pos hc, if_pos hc]
    · rw [if_neg hc, if_neg hc, IntWalk.wrap64_in _ (by omega)]; have := latest_from h h0 h1 need k (j + 1) (by omega) K (by omega)
      simpa using this
theorem latest_eq {sp : List Int} {st : List S32} (h : isLineB sp st = true) {n : Int} (h0 : 0 ≤ n) (h1 : n < st.length) (need : Int) (K : Nat) (hK : 201 < K) : channel_latest.f K sp st n need = some (latN sp st n need) :=
  latest_from h h0 h1 need 201 0 (by omega) K hK
def cntGe (last : List Int) (y : Int) : Nat := last.countP fun x => decide (y ≤ x)
def grFrom (last : List Int) : Nat → Int → List Int → List Int
  | 0, _, out => out
  | k + 1, y, out => if out.length < last.length then (if out.length < cntGe last y then grFrom last k (y - 1) (out ++ [y]) else grFrom last k (y - 1) out) else out
def grN (last : List Int) : List Int := grFrom last 41 40 []
theorem gr_count {last : List Int} (hl : last.length ≤ 1000000) (out : List Int) (ho : out.length ≤ 1000000) (y : Int) (hy : y ≤ 40) (hy0 : 0 ≤ y) (K : Nat) : ∀ (d j : Nat) (c : Int), j + d = last.length → 0 ≤ c → c ≤ j →
    channel_greatest.l1 (K + d + 1) last out y c last (last.length : Int) (j : Int) = if (out.length : Int) < c + ((last.drop j).countP fun x => decide (y ≤ x) : Nat) then channel_greatest.l0 (K) last (out ++ [y]) (y - 1) else channel_greatest.l0 (K) last out (y - 1)
  | 0, j, c, hj, hc0, hc => by
    unfold channel_greatest.l1; rw [if_neg (by omega), List.drop_of_length_le (by omega), IntWalk.wrap64_in (y - 1) (by omega)]; simp only [List.countP_nil, Int.natCast_zero, Int.add_zero, Nat.add_zero]
    by_cases h : (out.length : Int) < c
    · rw [if_pos (by omega), if_pos (by omega), if_pos (by simpa using h)]
    · rw [if_neg (by omega), if_neg (by simpa using h)]
  | d + 1, j, c, hj, hc0, hc => by
    have hlt : j < last.length := by omega
    unfold channel_greatest.l1; rw [if_pos (by omega), if_pos (by omega), if_pos (by omega)]; have e : rd last (j : Int) = last[j] := by simp [rd, List.getD, List.getElem?_eq_getElem hlt]
    have hd : last.drop j = last[j] :: last.drop (j + 1) := List.drop_eq_getElem_cons hlt; rw [hd, List.countP_cons, e, IntWalk.wrap64_in ((j : Int) + 1) (by omega), IntWalk.wrap64_in (c + 1) (by omega), show K + (d + 1) = K + d + 1 from rfl]
    by_cases h : y ≤ last[j]
    · rw [if_pos (by omega)]; have := gr_count hl out ho y hy hy0 K d (j + 1) (c + 1) (by omega) (by omega) (by omega); rw [Int.natCast_add, Int.natCast_one] at this; rw [this]; simp only [h, decide_true, if_true]
      congr 1
      simp; omega
    · rw [if_neg (by omega)]; have := gr_count hl out ho y hy hy0 K d (j + 1) c (by omega) hc0 (by omega); rw [Int.natCast_add, Int.natCast_one] at this; rw [this]; simp [h]
theorem beq_cast (a b : Nat) : ((a : Int) == (b : Int)) = decide (a = b) := by
  by_cases h : a = b
  · rw [h]; simp
  · rw [decide_eq_false h, beq_eq_false_iff_ne]; omega
theorem gr_from {last : List Int} (hl : last.length ≤ 1000000) : ∀ (k : Nat) (out : List Int) (K : Nat), k ≤ 41 → out.length ≤ last.length → k * (last.length + 3) + 3 ≤ K →
    channel_greatest.l0 K last out ((k : Int) - 1) = some (grFrom last k ((k : Int) - 1) out, decide ((grFrom last k ((k : Int) - 1) out).length = last.length))
  | 0, out, K + 2, _, ho, hK => by
    unfold channel_greatest.l0 grFrom; rw [if_neg (by omega)]; unfold channel_greatest.j1; simp [beq_cast]
  | k + 1, out, K, hk, ho, hK => by
    obtain ⟨K, rfl⟩ : ∃ K', K = K' + last.length + 1 + 2 := ⟨K - last.length - 3, by rw [Nat.add_mul] at hK; omega⟩; unfold channel_greatest.l0 grFrom; rw [if_pos (by omega)]; unfold channel_greatest.j1
    by_cases h : out.length < last.length
    · rw [if_pos (by simpa using h), if_pos h, show (0 : Int) = ((0 : Nat) : Int) from rfl, gr_count hl out (by omega) (((k + 1 : Nat) : Int) - 1) (by omega) (by omega) K last.length 0 _ (by omega) (by omega) (by omega)]; simp only [List.drop_zero, Int.natCast_zero, Int.zero_add]; have hc : ((out.length : Int) < ((last.countP fun x => decide (((k + 1 : Nat) : Int) - 1 ≤ x) : Nat) : Int)) ↔ out.length < cntGe last (((k + 1 : Nat) : Int) - 1) := by unfold cntGe; omega
      have e : ((k + 1 : Nat) : Int) - 1 - 1 = (k : Int) - 1 := by omega
      rw [e]; have hK2 : k * (last.length + 3) + 3 ≤ K := by rw [Nat.add_mul] at hK; omega
      by_cases h2 : out.length < cntGe last (((k + 1 : Nat) : Int) - 1)
      · rw [if_pos (hc.2 h2), if_pos h2]; exact gr_from hl k _ K (by omega) (by simp; omega) hK2
      · rw [if_neg (fun x => h2 (hc.1 x)), if_neg h2]; exact gr_from hl k _ K (by omega) ho hK2
    · rw [if_neg (by simpa using h), if_neg h]; simp [beq_cast]
theorem greatest_eq {last : List Int} (hl : last.length ≤ 1000000) (K : Nat) (hK : 41 * (last.length + 3) + 3 ≤ K) : channel_greatest.f K last = some (grN last, decide ((grN last).length = last.length)) :=
  gr_from hl 41 [] K (by omega) (by simp) hK
theorem gr_desc (last : List Int) : ∀ (k : Nat) (y : Int) (out : List Int), out.Pairwise (fun a b => b < a) → (∀ a ∈ out, y < a ∧ a ≤ 40) → y ≤ 40 → (grFrom last k y out).Pairwise (fun a b => b < a) ∧ ∀ a ∈ grFrom last k y out, y - k < a ∧ a ≤ 40
  | 0, y, out, h1, h2, hy => ⟨h1, fun a ha => by have := h2 a ha; omega⟩
  | k + 1, y, out, h1, h2, hy => by
    unfold grFrom
    split
    · split
      · have := gr_desc last k (y - 1) (out ++ [y]) (List.pairwise_append.2 ⟨h1, by simp, by simpa using fun a ha => (h2 a ha).1⟩) (by
          intro a ha
          rcases List.mem_append.1 ha with ha | ha
          · have := h2 a ha; omega
          · simp at ha; omega) (by omega)
        exact ⟨this.1, fun a ha => by have := this.2 a ha; omega⟩
      · have := gr_desc last k (y - 1) out h1 (fun a ha => by have := h2 a ha; omega) (by omega); exact ⟨this.1, fun a ha => by have := this.2 a ha; omega⟩
    · exact ⟨h1, fun a ha => by have := h2 a ha; omega⟩
end Go.Proofs.YtdmdahafiiggiaaGreatDoor.K
end
section
namespace Go.Proofs
open Go.Shelf
def Tryz.sortA_ren : Go.Shelf.Ren := ⟨fun | 5 => 69 | 8 => 105 | 7 => 104 | 19 => 133 | 20 => 134 | 10 => 124 | 11 => 125 | 12 => 126 | 13 => 127 | 14 => 128 | 15 => 129 | 16 => 130 | 17 => 131 | 18 => 132 | 30 => 143 | 31 => 144 | 32 => 145 | 33 => 146 | 34 => 147 | 35 => 148 | 40 => 154 | n => n, fun | 23 => 22 | 25 => 3 | 3 => 3 | 32 => 139 | 22 => 22 | 0 => 0 | 44 => 174 | 46 => 176 | 4 => 4 | 36 => 166 | 35 => 165 | 41 => 171 | 5 => 5 | 9 => 9 | 53 => 189 | 57 => 193 | 63 => 198 | 64 => 199 | n => n, fun | n => n⟩
theorem Tryz.sortA : Go.Proofs.SlLaysM.n5 Tryz.prog Tryz.sortA_ren := {
  mixed := by kernel_rfl
  f5 := ⟨Tryz.f69.name, by decide, Tryz.func69.trans (congrArg some (by kernel_rfl))⟩
  f7 := ⟨Tryz.f104.name, by decide, Tryz.func104.trans (congrArg some (by kernel_rfl))⟩
  f8 := Tryz.func105.trans (congrArg some (by kernel_rfl))
  f10 := ⟨Tryz.f124.name, by decide, Tryz.func124.trans (congrArg some (by kernel_rfl))⟩
  f11 := ⟨Tryz.f125.name, by decide, Tryz.func125.trans (congrArg some (by kernel_rfl))⟩
  f12 := ⟨Tryz.f126.name, by decide, Tryz.func126.trans (congrArg some (by kernel_rfl))⟩
  f13 := ⟨Tryz.f127.name, by decide, Tryz.func127.trans (congrArg some (by kernel_rfl))⟩
  f14 := ⟨Tryz.f128.name, by decide, Tryz.func128.trans (congrArg some (by kernel_rfl))⟩
  f15 := ⟨Tryz.f129.name, by decide, Tryz.func129.trans (congrArg some (by kernel_rfl))⟩
  f16 := ⟨Tryz.f130.name, by decide, Tryz.func130.trans (congrArg some (by kernel_rfl))⟩
  f17 := ⟨Tryz.f131.name, by decide, Tryz.func131.trans (congrArg some (by kernel_rfl))⟩
  f18 := ⟨Tryz.f132.name, by decide, Tryz.func132.trans (congrArg some (by kernel_rfl))⟩
  f19 := Tryz.func133.trans (congrArg some (by kernel_rfl))
  f20 := Tryz.func134.trans (congrArg some (by kernel_rfl))
  f30 := ⟨Tryz.f143.name, by decide, Tryz.func143.trans (congrArg some (by kernel_rfl))⟩
  f31 := Tryz.func144.trans (congrArg some (by kernel_rfl))
  f32 := Tryz.func145.trans (congrArg some (by kernel_rfl))
  f33 := ⟨Tryz.f146.name, by decide, Tryz.func146.trans (congrArg some (by kernel_rfl))⟩
  f34 := ⟨Tryz.f147.name, by decide, Tryz.func147.trans (congrArg some (by kernel_rfl))⟩
  f35 := ⟨Tryz.f148.name, by decide, Tryz.func148.trans (congrArg some (by kernel_rfl))⟩
  f40 := ⟨Tryz.f154.name, by decide, Tryz.func154.trans (congrArg some (by kernel_rfl))⟩
  t0 := Tryz.underlying0
  a0 := Tryz.isAgg0
  z0 := Tryz.sizeOf0
  v0 := Tryz.zeroValue0
  t3 := Tryz.underlying3
  a3 := Tryz.isAgg3
  z3 := Tryz.sizeOf3
  v3 := Tryz.zeroValue3
  t4 := Tryz.underlying4
  a4 := Tryz.isAgg4
  z4 := Tryz.sizeOf4
  v4 := Tryz.zeroValue4
  t5 := Tryz.underlying5
  a5 := Tryz.isAgg5
  z5 := Tryz.sizeOf5
  v5 := Tryz.zeroValue5
  t9 := Tryz.underlying9
  a9 := Tryz.isAgg9
  z9 := Tryz.sizeOf9
  v9 := Tryz.zeroValue9
  t22 := Tryz.underlying22
  a22 := Tryz.isAgg22
  z22 := Tryz.sizeOf22
  v22 := Tryz.zeroValue22
  t23 := Tryz.underlying22
  a23 := Tryz.isAgg22
  z23 := Tryz.sizeOf22
  v23 := Tryz.zeroValue22
  t25 := Tryz.underlying3
  a25 := Tryz.isAgg3
  z25 := Tryz.sizeOf3
  v25 := Tryz.zeroValue3
  t32 := Tryz.underlying139
  a32 := Tryz.isAgg139
  z32 := Tryz.sizeOf139
  v32 := Tryz.zeroValue139
  t35 := Tryz.underlying165
  a35 := Tryz.isAgg165
  z35 := Tryz.sizeOf165
  v35 := Tryz.zeroValue165
  t36 := Tryz.underlying166
  a36 := Tryz.isAgg166
  z36 := Tryz.sizeOf166
  v36 := Tryz.zeroValue166
  t41 := Tryz.underlying171
  a41 := Tryz.isAgg171
  z41 := Tryz.sizeOf171
  v41 := Tryz.zeroValue171
  t44 := Tryz.underlying174
  a44 := Tryz.isAgg174
  z44 := Tryz.sizeOf174
  v44 := Tryz.zeroValue174
  t46 := Tryz.underlying176
  a46 := Tryz.isAgg176
  z46 := Tryz.sizeOf176
  v46 := Tryz.zeroValue176
  t53 := Tryz.underlying189
  a53 := Tryz.isAgg189
  z53 := Tryz.sizeOf189
  v53 := Tryz.zeroValue189
  t57 := Tryz.underlying193
  a57 := Tryz.isAgg193
  z57 := Tryz.sizeOf193
  v57 := Tryz.zeroValue193
  t63 := Tryz.underlying198
  a63 := Tryz.isAgg198
  z63 := Tryz.sizeOf198
  v63 := Tryz.zeroValue198
  t64 := Tryz.underlying199
  a64 := Tryz.isAgg199
  z64 := Tryz.sizeOf199
  v64 := Tryz.zeroValue199 }
end Go.Proofs
end
section
namespace Go.Proofs.YtdmdahafiiggiaaGreatDoor.K
open Go.RowKit Go.Shelf Go.Proofs.YtdmdahafiiggiaaGreatDoorW.PrintWords Go.Proofs.YtdmdahafiiggiaaGreatDoorW.PrintLast Go.Proofs.YtdmdahafiiggiaaGreatDoorW.PrintMore
attribute [local go_sem] Oper.semAt_some
theorem blockAdd (a : Addr) (i : Nat) : (a.add i).block = a.block := by unfold Addr.add; split <;> rfl
def uptoF {α : Type} (f : Nat → α) (k : Nat) : List α := (List.range k).map f
theorem uptoF_succ {α : Type} (f : Nat → α) (k : Nat) : uptoF f (k + 1) = uptoF f k ++ [f k] := by simp [uptoF, List.range_succ]
theorem uptoF_length {α : Type} (f : Nat → α) (k : Nat) : (uptoF f k).length = k := by simp [uptoF]
theorem uptoF_all (zs : List Int) : uptoF (fun j => zs[j]?.getD 0) zs.length = zs := by
  apply List.ext_getElem
  · simp [uptoF]
  · intro i h1 h2; simp [uptoF, h2]
theorem uptoF_take (zs : List Int) {k : Nat} (hk : k ≤ zs.length) : uptoF (fun j => zs[j]?.getD 0) k = zs.take k := by
  apply List.ext_getElem
  · simp [uptoF, hk]
  · intro i h1 h2; have : i < zs.length := by simp [uptoF] at h1; omega
    simp [uptoF, this]
set_option maxRecDepth 100000 in
set_option maxHeartbeats 2000000 in
theorem values1_in (F : Fence) (n : Nat) (h7 : F.fn 136) (hro : F.round = none) (hn : 1 ≤ n) (l Bs n₀ len cap : Nat) (ad : Addr) (zs : List Int) (hreach : len * 8 ≤ 140737488351232) (hb : ad.block < n₀) (J Jx : List Int → World → Prop)
    (hY : ∀ pre x W, J pre W → pre.length < len → YieldAt F (n - 1) Tryz.prog l #[.int .i64 x] W fun e W' =>
      (e = .returned (.bool true) ∧ J (pre ++ [x]) W' ∧ Below n₀ W W') ∨ (e = .returned (.bool false) ∧ Jx (pre ++ [x]) W'))
    (W : World) (hBs : W.cell? ⟨Bs, 0, none⟩ = some (.slice (some ad) len cap)) (hc : ∀ j, j < len → W.cell? (ad.add j) = some (.int .i64 (zs[j]?.getD 0))) (h0 : J [] W) :
    CallsIn F n Tryz.prog 136 #[.func (.yield l) #[] #[], .pointer (some ⟨Bs, 0, none⟩)] W fun e W' => (∃ v, e = .returned v) ∧
      ((∃ ys, ys = uptoF (fun j => zs[j]?.getD 0) len ∧ J ys W') ∨ (∃ pre, (∃ k, k ≤ len ∧ pre = uptoF (fun j => zs[j]?.getD 0) k) ∧ Jx pre W')) := by
  refine callsIn_of_wp Tryz.func136 rfl h7 ?_ hro; simp only [Tryz.ntmps136, List.size_toArray, List.length_cons, List.length_nil, Nat.reduceAdd, Nat.reduceSub, Array.replicate_succ, Array.replicate_zero, List.push_toArray, List.append_toArray, List.nil_append, List.cons_append]
  gi_wp2
  gi_loopw [7] (fun i wr => ∃ k : Nat, k ≤ len ∧ i = .int .i64 k ∧ J (uptoF (fun j => zs[j]?.getD 0) k) wr ∧ Below n₀ W wr)
    (fun i _ => len - (intOf i).toNat)
  case atStart => exact ⟨0, Nat.zero_le _, rfl, h0, Below.refl _ _⟩
  case round =>
    obtain ⟨k, hk, rfl, hJs, hnx⟩ := hrel; have hcx : k < len → wr.cell? (ad.add k) = some (.int .i64 (zs[k]?.getD 0)) := fun h => (hnx.cell (p := ad.add k) (by rw [blockAdd]; exact hb)).trans (hc k h)
    by_cases hlt : k < len
    · obtain ⟨fn, tmps, assign, body, hy, hR⟩ := hY _ (zs[k]?.getD 0) wr hJs (by rw [uptoF_length]; exact hlt); have hcx' := hcx hlt
      gi_wp2
      refine hR.mono ?_; rintro e W3 (⟨rfl, hJ3, hk3⟩ | ⟨rfl, hJx3⟩)
      · gi_wp2
        go_roundw
        case rel => exact ⟨k + 1, by omega, by simp, by rw [uptoF_succ]; exact hJ3, hnx.trans hk3⟩
        case measure => simp [intOf]; omega
      · gi_wp2
        refine bodyPost_ret (results_none rfl _ _ _) rfl ?_; exact ⟨⟨_, rfl⟩, .inr ⟨_, ⟨k + 1, by omega, (uptoF_succ _ _).symm⟩, hJx3⟩⟩
    · obtain rfl : k = len := by omega
      gi_wp2
      go_end0
      exact ⟨⟨_, rfl⟩, .inl ⟨_, rfl, hJs⟩⟩
set_option maxRecDepth 100000 in
set_option maxHeartbeats 1000000 in
theorem values1_nil_in (F : Fence) (n : Nat) (h7 : F.fn 136) (hro : F.round = none) (l Bs cap : Nat) (A : Option Addr) (J : List Int → World → Prop) (W : World) (hBs : W.cell? ⟨Bs, 0, none⟩ = some (.slice A 0 cap)) (h0 : J [] W) :
    CallsIn F n Tryz.prog 136 #[.func (.yield l) #[] #[], .pointer (some ⟨Bs, 0, none⟩)] W fun e W' => (∃ v, e = .returned v) ∧ J [] W' := by
  refine callsIn_of_wp Tryz.func136 rfl h7 ?_ hro; simp only [Tryz.ntmps136, List.size_toArray, List.length_cons, List.length_nil, Nat.reduceAdd, Nat.reduceSub, Array.replicate_succ, Array.replicate_zero, List.push_toArray, List.append_toArray, List.nil_append, List.cons_append]
  gi_wp2
  gi_loopw [7] (fun i wr => i = .int .i64 0 ∧ J [] wr) (fun _ _ => 0)
  case atStart => exact ⟨rfl, h0⟩
  case round =>
    obtain ⟨rfl, hJs⟩ := hrel
    gi_wp2
    go_end0
    exact ⟨⟨_, rfl⟩, hJs⟩
set_option maxHeartbeats 1000000 in
theorem values_any (a : Option Addr) (len cap : Nat) (w : World) :
    Calls Tryz.prog 108 #[.slice a len cap] w fun e w' => e = .returned (.func (.func 136) #[] #[.pointer (some ⟨w.heap.size, 0, none⟩)]) ∧ w' = w.alloc (.cells #[.slice a len cap] 22) := by
  have hmf : ∀ (fn : Fn) (first cap : Array Value) (w : World), (Instr.makeFunc fn first cap).run Tryz.prog w = .ok (.func fn first cap) w := fun _ _ _ _ => rfl
  go_enter Tryz.func108, Tryz.ntmps108
  go_wp2; go_ret; exact ⟨rfl, rfl⟩
theorem ints_at {w : World} {A : Option Addr} {zs : List Int} (h : Kd.C (Kd.int .i64) w A zs.length zs) (h0 : 0 < zs.length) : ∃ ad, A = some ad ∧ ad.block < w.heap.size ∧ ∀ j, j < zs.length → w.cell? (ad.add j) = some (.int .i64 (zs[j]?.getD 0)) := by
  obtain ⟨ad, rfl, h1⟩ := Kd.at_int h 0 (by omega) (by omega); refine ⟨ad, rfl, World.block_lt_of_cell? w _ h1, fun j hj => ?_⟩; obtain ⟨ad', e, h2⟩ := Kd.at_int h (j : Int) (by omega) (by omega)
  cases e
  rw [Int.toNat_natCast] at h2; rw [h2]; simp [rd, List.getD]
theorem values_stops (F : Fence) (n : Nat) (h7 : F.fn 136) (hro : F.round = none) (hn : 1 ≤ n) (Bs n₀ : Nat) (A : Option Addr) (cap : Nat) (zs : List Int) (hreach : zs.length * 8 ≤ 140737488351232) (w0 w : World) (hBs : Bs < w.heap.size) (hn₀ : n₀ ≤ w.heap.size) (hw0 : w0.heap.size ≤ n₀) (hb0 : Below w0.heap.size w0 w)
    (hc : w.cell? ⟨Bs, 0, none⟩ = some (.slice A zs.length cap)) (hI : Kd.C (Kd.int .i64) w0 A zs.length zs) :
    SeqStopsK F n Tryz.prog 136 #[.pointer (some ⟨Bs, 0, none⟩)] (fun x : Int => #[Value.int .i64 x]) (Below n₀) (fun ys => ys = zs) (fun pre => pre <+: zs) zs.length w := fun l J Jx W hW _ _ hY h0 => by
  have hc' := (hW.cell (p := ⟨Bs, 0, none⟩) hBs).trans hc
  by_cases hz : 0 < zs.length
  · obtain ⟨ad, rfl, hb, hcs⟩ := ints_at hI hz; have hcs' : ∀ j, j < zs.length → W.cell? (ad.add j) = some (.int .i64 (zs[j]?.getD 0)) := fun j hj => (hW.cell (p := ad.add j) (by rw [blockAdd]; exact Nat.lt_of_lt_of_le (Nat.lt_of_lt_of_le hb hw0) hn₀)).trans ((hb0.cell (p := ad.add j) (by rw [blockAdd]; exact hb)).trans (hcs j hj)); refine (values1_in F n h7 hro hn l Bs n₀ zs.length cap ad zs hreach (Nat.lt_of_lt_of_le hb hw0) J Jx hY W hc' hcs' h0).mono ?_; rintro e W' ⟨he, ⟨ys, rfl, hj⟩ | ⟨pre, ⟨k, hk, rfl⟩, hj⟩⟩
    · exact ⟨he, .inl ⟨_, uptoF_all zs, hj⟩⟩
    · exact ⟨he, .inr ⟨_, by rw [uptoF_take zs hk]; exact List.take_prefix _ _, hj⟩⟩
  · obtain rfl : zs = [] := List.eq_nil_of_length_eq_zero (by omega); exact (values1_nil_in F n h7 hro l Bs cap A J W hc' h0).mono fun e W' ⟨he, hj⟩ => ⟨he, .inl ⟨_, rfl, hj⟩⟩
theorem infoInt : (Tryz.prog.info? 3).map (fun i => (i.zero, i.size, i.bytes)) = some (some (.int .i64 0), 1, 8) := by kernel_rfl
set_option maxRecDepth 100000 in
set_option maxHeartbeats 2000000 in

theorem appendSeq_in (F : Fence) (n : Nat) (hA : F.fn 149) (h7 : F.fn 136) (hro : F.round = none) (hn : 3 ≤ n) (Bv : Nat) (A : Option Addr) (cap : Nat) (zs : List Int) (hl : zs.length ≤ 1000000) (w0 w : World)
    (hBv : Bv < w.heap.size) (hb0 : Below w0.heap.size w0 w) (hcv : w.cell? ⟨Bv, 0, none⟩ = some (.slice A zs.length cap)) (hI : Kd.C (Kd.int .i64) w0 A zs.length zs) :
    CallsIn F n Tryz.prog 149 #[.slice none 0 0, .func (.func 136) #[] #[.pointer (some ⟨Bv, 0, none⟩)]] w fun e W' => ∃ v, e = .returned v ∧ W'.ownsRow w.heap.size 3 1 v zs.length (zs.map (Value.int .i64)) ∧ (v = .slice none 0 0 ↔ zs = []) ∧ Below w.heap.size w W' := by
  have h1 : 1 ≤ n := by omega
  obtain ⟨i0, hi, hz0, hz1, hz2⟩ := info_parts infoInt; refine callsIn_of_wp_marks Tryz.func149 rfl hA ?_ hro; simp only [Tryz.ntmps149, List.size_toArray, List.length_cons, List.length_nil, Nat.reduceAdd, Nat.reduceSub, Array.replicate_succ, Array.replicate_zero, List.push_toArray, List.append_toArray, List.nil_append, List.cons_append]
  gi_wp2
  have bS := Boxed.new w 22 (.slice none 0 0); have hB0 : Below w.heap.size w (w.alloc (.cells #[.slice none 0 0] 22)) := (Below.refl _ w).alloc (Nat.le_refl _) _
  refine wpIn_rangeFunc_ownG hro h1 (gf := 136) (lb := #[.pointer (some ⟨Bv, 0, none⟩)]) rfl h7 (enters_of Tryz.func136 (by kernel_rfl) rfl)
    (values_stops F (n - 1) h7 hro (by omega) Bv w.heap.size A cap zs (by omega) w0 _ (by simp; omega) (by simp) hb0.size (below_step hb0 hB0) ((hB0.cell (p := ⟨Bv, 0, none⟩) hBv).trans hcv) hI) belowK_t (belowK_b (by simp)) (Below.refl _ _) (fun _ => rfl)
    (fun pre W => (∃ v, Boxed W w.heap.size 22 v ∧ W.ownsRow w.heap.size 3 1 v pre.length (pre.map (Value.int .i64)) ∧ (v = .slice none 0 0 ↔ pre = [])) ∧ Below w.heap.size w W)
    (fun _ _ _ => False)
    (OwnFrom.and (Own.from (holdsRow_own w.heap.size w.heap.size 22 3 1 (fun pre : List Int => pre.length) (fun pre => pre.map (Value.int .i64)) (fun pre v => v = .slice none 0 0 ↔ pre = [])) _) (ownFrom_below (Nat.le_refl _) (by simp)))
    (fun _ _ _ _ _ hs _ _ => hs)
    ⟨⟨_, bS, World.ownsRow_nil _ _ _ _, by simp⟩, hB0⟩
    (fun x => { tmps := #[.slice none 0 0, .func (.func 136) #[] #[.pointer (some ⟨Bv, 0, none⟩)], .pointer (some ⟨w.heap.size, 0, none⟩), undef, .slice none 0 0, .int .i64 x, .func (.func 136) #[] #[.pointer (some ⟨Bv, 0, none⟩)], .int .i64 x, undef, undef, undef, undef, undef], defers := [] }) ?assign ?body ?done ?stop
  case assign =>
    intro l x W K hK
    gi_wp2
    exact hK
  case body =>
    rintro l pre x W ⟨⟨v, hv, hrow, hnil⟩, hB⟩ hlt; have hc := hv.cell
    gi_wp2_with (gi_at_builtin; refine wpListIn_append_own _ rfl _ _ 22 rfl w.heap.size 3 i0 (.int .i64 0) 1 8 Tryz.underlying22 hi hz0 hz1 hz2 rfl (by decide) _ _ _ rfl (hrow.alloc _) ⟨W.heap.size, 0, none⟩ 1 1 [.int .i64 x] rfl rfl (cell_one_new _ _ _) (by simp [Value.oneCell']) (by unfold maxLen; omega) (by omega) (by have := hB.size; simp; omega) ?_; intro v' w1 hown' hgrow _; obtain ⟨g', cap', rfl⟩ := ownsRow_succ hown'; obtain ⟨hv1, hv2, hr2, hk2, hb2⟩ := hv.appended (by decide) hrow hB.size (Nat.le_refl _) hown' hgrow; have hc1 := hv1.cell; have hf1 := hv1.frozen)
    exact ⟨hk2.from _, hb2, ⟨_, hv2, by simpa using hr2, by simp⟩, hB.trans hb2⟩
  case done =>
    rintro D ys W hD rfl ⟨⟨v, hv, hrow, hnil⟩, hB⟩ hK; have hc := hv.cell
    gi_wp2
    refine ⟨by simp, .inl ⟨_, _, rfl, run_takeDeferred hK, ?_⟩⟩; exact ⟨_, results_tmp rfl _ _ _, v, rfl, ownsRow_putObj hrow _ hK rfl, hnil, hB.trans (belowK_b (w := w) (Nat.le_refl _) W D _ _ (by simp at hD; omega) hK rfl rfl)⟩
  case stop =>
    rintro D c pre W _ _ h _; exact h.elim
theorem collect_any (Bv : Nat) (A : Option Addr) (cap : Nat) (zs : List Int) (hl : zs.length ≤ 1000000) (w0 w : World)
    (hBv : Bv < w.heap.size) (hb0 : Below w0.heap.size w0 w) (hcv : w.cell? ⟨Bv, 0, none⟩ = some (.slice A zs.length cap)) (hI : Kd.C (Kd.int .i64) w0 A zs.length zs) :
    Calls Tryz.prog 135 #[.func (.func 136) #[] #[.pointer (some ⟨Bv, 0, none⟩)]] w fun e W' => ∃ v, e = .returned v ∧ W'.ownsRow w.heap.size 3 1 v zs.length (zs.map (Value.int .i64)) ∧ (v = .slice none 0 0 ↔ zs = []) ∧ Below w.heap.size w W' := by
  have CA := Aside0.mk ((callsIn_wide (n := 3)).1 (appendSeq_in Fence.wide 3 trivial trivial rfl (by omega) Bv A cap zs hl w0 w hBv hb0 hcv hI))
  go_enter Tryz.func135, Tryz.ntmps135
  go_wp2_with (go_at_call 149; refine CA.out.mono ?_; rintro e w1 ⟨v, rfl, h1, h2, h3⟩)
  go_ret; exact ⟨v, rfl, h1, h2, h3⟩
def sortL (l : List Int) : List Int := l.mergeSort fun x y => decide (x ≤ y)
theorem sortL_length (l : List Int) : (sortL l).length = l.length := List.length_mergeSort l
def IntsAt (w : World) (v : Value) (xs : List Int) : Prop := ∃ A c, v = .slice A xs.length c ∧ ∀ i : Int, 0 ≤ i → i < xs.length → ∃ ad, A = some ad ∧ w.cell? (ad.add i.toNat) = some (.int .i64 (rd xs i))
theorem IntsAt.below {w w1 : World} {v : Value} {xs : List Int} (h : IntsAt w v xs) (hb : Below w.heap.size w w1) : IntsAt w1 v xs := by
  obtain ⟨A, c, e, hc⟩ := h; refine ⟨A, c, e, fun i h0 h1 => ?_⟩; obtain ⟨ad, ea, hx⟩ := hc i h0 h1; exact ⟨ad, ea, (hb.cell (World.block_lt_of_cell? w _ hx)).trans hx⟩
set_option maxRecDepth 100000 in
set_option maxHeartbeats 1000000 in
theorem sorted_any (Bv : Nat) (A : Option Addr) (cap : Nat) (zs : List Int) (hl : zs.length ≤ 1000000) (w0 w : World)
    (hBv : Bv < w.heap.size) (hb0 : Below w0.heap.size w0 w) (hcv : w.cell? ⟨Bv, 0, none⟩ = some (.slice A zs.length cap)) (hI : Kd.C (Kd.int .i64) w0 A zs.length zs) :
    Calls Tryz.prog 107 #[.func (.func 136) #[] #[.pointer (some ⟨Bv, 0, none⟩)]] w fun e W' => ∃ v, e = .returned v ∧ IntsAt W' v (sortL zs) ∧ Below w.heap.size w W' := by
  have CC := Aside0.mk (collect_any Bv A cap zs hl w0 w hBv hb0 hcv hI); clear hcv hI hb0 hBv
  go_enter Tryz.func107, Tryz.ntmps107
  go_wp2_with (go_at_call 135; refine CC.out.mono ?_; rintro e W ⟨v, rfl, hrow, hnil, hb⟩)
  rcases hrow.2 with ⟨rfl, hz⟩ | ⟨gb, cap', cur, rfl, hbase, hgb, r1, r2, r3, r4⟩
  · have hss : zs = [] := List.eq_nil_of_length_eq_zero hz; subst hss; refine (AnyM.slices_Sort_int_none Tryz.sortA none 0 W).mono ?_; rintro e w' ⟨rfl, rfl⟩; go_wp2; go_ret; exact ⟨_, rfl, ⟨none, 0, by simp [sortL], fun i h0 h1 => by simp [sortL] at h1; omega⟩, hb⟩
  · have hH : Sort.Holds (Value.int .i64) W gb 0 zs.toArray := holds_of_block_i hgb (by simpa using r4); have hgl : gb < W.heap.size := (Array.getElem?_eq_some_iff.1 hgb).1; have cS := AnyM.slices_Sort_int Tryz.sortA gb 0 cap' zs W hH hgl (by omega); refine cS.mono ?_; rintro e w' ⟨rfl, nn, os, rfl⟩; go_wp2; go_ret; have hR := ownsRow_sorted_i (n := nn) (os := os) (ts := sortL zs) (ss := zs) (sortL_length zs) hbase hgb r1 r2 r3; refine ⟨_, rfl, ?_, hb.grown (grownBy_sorted_i _) hb.size (fun j hj => by cases hj; exact hbase)⟩; refine ⟨some ⟨gb, 0, none⟩, cap', by rw [sortL_length]; rfl, fun i h0 h1 => ⟨_, rfl, ?_⟩⟩; rw [sortL_length] at h1; have := (own_at hR i h0 h1).1
    rwa [show (⟨gb, i.toNat, none⟩ : Addr) = (⟨gb, 0, none⟩ : Addr).add i.toNat from by unfold Addr.add; split <;> simp_all] at this
end Go.Proofs.YtdmdahafiiggiaaGreatDoor.K
end
section
namespace Go.Proofs.YtdmdahafiiggiaaGreatDoor.K
open Go.RowKit Go.Proofs.YtdmdahafiiggiaaGreatDoorW.PrintWords Go.Proofs.YtdmdahafiiggiaaGreatDoorW.PrintLast Go.Proofs.YtdmdahafiiggiaaGreatDoorW.PrintMore
attribute [local simp] clsA
def fitB (last years : List Int) : Bool := (List.range last.length).all fun i => decide (rd (sortL years) i ≤ rd (sortL last) i)
theorem fit_true {last years : List Int} (h : ∀ i : Nat, i < last.length → rd (sortL years) i ≤ rd (sortL last) i) : fitB last years = true := by
  simp only [fitB, List.all_eq_true, List.mem_range, decide_eq_true_eq]; exact h
theorem fit_false {last years : List Int} (i : Nat) (hi : i < last.length) (h : ¬ rd (sortL years) i ≤ rd (sortL last) i) : fitB last years = false := by
  rw [Bool.eq_false_iff]; intro hf; simp only [fitB, List.all_eq_true, List.mem_range, decide_eq_true_eq] at hf; exact h (hf i hi)
set_option maxRecDepth 100000 in
set_option maxHeartbeats 1000000 in
theorem fit_any (A A' : Option Addr) (c c' : Nat) (last years : List Int) (w : World) (hr : Kd.C (Kd.int .i64) w A last.length last) (hr' : Kd.C (Kd.int .i64) w A' years.length years) (hl : last.length ≤ 1000000) (hl' : years.length ≤ 1000000) (hle : last.length ≤ years.length) :
    Calls Tryz.prog 74 #[.slice A last.length c, .slice A' years.length c'] w fun e w' => e = .returned (.bool (fitB last years)) ∧ Below w.heap.size w w' := by
  have hmf : ∀ (fn : Fn) (first cap : Array Value) (w : World), (Instr.makeFunc fn first cap).run Tryz.prog w = .ok (.func fn first cap) w := fun _ _ _ _ => rfl
  have S1 : Aside0 (∀ W, Below w.heap.size w W → Calls Tryz.prog 107 #[.func (.func 136) #[] #[.pointer (some ⟨W.heap.size, 0, none⟩)]] (W.alloc (.cells #[.slice A last.length c] 22)) fun e W' => ∃ v, e = .returned v ∧ IntsAt W' v (sortL last) ∧ Below W.heap.size W W') := ⟨fun W hW => by
    have hB : Below W.heap.size W (W.alloc (.cells #[.slice A last.length c] 22)) := (Below.refl _ _).alloc (Nat.le_refl _) _; refine (sorted_any W.heap.size A c last hl w (W.alloc (.cells #[.slice A last.length c] 22)) (by simp) (below_step hW hB) (by simp [go_sem]) hr).mono ?_; rintro e W' ⟨v, rfl, h1, h2⟩
    exact ⟨v, rfl, h1, below_then hB hB.size h2⟩⟩
  have S2 : Aside0 (∀ W, Below w.heap.size w W → Calls Tryz.prog 107 #[.func (.func 136) #[] #[.pointer (some ⟨W.heap.size, 0, none⟩)]] (W.alloc (.cells #[.slice A' years.length c'] 22)) fun e W' => ∃ v, e = .returned v ∧ IntsAt W' v (sortL years) ∧ Below W.heap.size W W') := ⟨fun W hW => by
    have hB : Below W.heap.size W (W.alloc (.cells #[.slice A' years.length c'] 22)) := (Below.refl _ _).alloc (Nat.le_refl _) _; refine (sorted_any W.heap.size A' c' years hl' w (W.alloc (.cells #[.slice A' years.length c'] 22)) (by simp) (below_step hW hB) (by simp [go_sem]) hr').mono ?_; rintro e W' ⟨v, rfl, h1, h2⟩
    exact ⟨v, rfl, h1, below_then hB hB.size h2⟩⟩
  clear hr hr'; have HL := Aside0.mk (And.intro hl (And.intro hl' hle)); clear hl hl' hle; have HB := Aside0.mk (Below.refl w.heap.size w)
  go_enter Tryz.func74, Tryz.ntmps74
  go_wp2_with (go_at_call 108; refine (values_any _ _ _ _).mono ?_; rintro e w1 ⟨rfl, rfl⟩)
  refine (S1.out _ HB.out).mono ?_; rintro e w1 ⟨v1, rfl, i1, b1⟩
  go_wp2_with (go_at_call 108; refine (values_any _ _ _ _).mono ?_; rintro e w2 ⟨rfl, rfl⟩)
  refine (S2.out _ b1).mono ?_; rintro e w2 ⟨v2, rfl, i2, b2⟩; replace i1 := i1.below b2; obtain ⟨A1, c1, rfl, h1⟩ := i1; obtain ⟨A2, c2, rfl, h2⟩ := i2; have H1 := Aside0.mk h1; have H2 := Aside0.mk h2; have HB2 := Aside0.mk (below_step b1 b2); clear h1 h2 b1 b2 S1 S2 HB; have e1 := sortL_length last; have e2 := sortL_length years; have E1 := Aside0.mk e1; have E2 := Aside0.mk e2; clear e1 e2; go_wp2
  go_loopg [7, 16] (sortL last).length (fun kq v7 v16 w' => ∃ j : Nat, v16 = .int .i64 (j : Int) ∧ Aside0 (j + kq = (sortL last).length) ∧ Aside0 (∀ i : Nat, i < j → rd (sortL years) i ≤ rd (sortL last) i) ∧ Aside0 (Below w2.heap.size w2 w'))
  case atStart => exact ⟨0, rfl, ⟨by omega⟩, ⟨fun i hi => by omega⟩, ⟨Below.refl _ _⟩⟩
  case round =>
    obtain ⟨j, rfl, HJ, HI, HW⟩ := hrel
    cases gk with
    | zero =>
      have c3 : decide ((j : Int) < ((sortL last).length : Int)) = false := decide_eq_false (by have := HJ.out; omega); have c4 : ¬ (j < (sortL last).length) := by have := HJ.out; omega
      go_wp2; go_ret; exact ⟨by rw [fit_true (fun i hi => HI.out i (by have := HJ.out; have := E1.out; omega))]; rfl, below_step HB2.out HW.out⟩
    | succ k2 =>
      have c3 : decide ((j : Int) < ((sortL last).length : Int)) = true := decide_eq_true (by have := HJ.out; omega); have p1 : (0 : Int) ≤ (j : Int) := by omega
      have p2 : (j : Int) < ((sortL last).length : Int) := by have := HJ.out; omega
      have p3 : (j : Int) < ((sortL years).length : Int) := by have := HJ.out; have := E1.out; have := E2.out; have := HL.out; omega
      obtain ⟨ad1, ea1, x1⟩ := H1.out j p1 p2; obtain ⟨ad2, ea2, x2⟩ := H2.out j p1 p3
      cases ea1
      cases ea2
      rw [Int.toNat_natCast] at x1 x2; replace x1 := (HW.out.cell (World.block_lt_of_cell? _ _ x1)).trans x1; replace x2 := (HW.out.cell (World.block_lt_of_cell? _ _ x2)).trans x2; have y1 := fun X : After wr => X.cell' x1; have y2 := fun X : After wr => X.cell' x2; clear x1 x2; have q1 := eq_true p1; have q2 := eq_true p2; have q3 := eq_true p3; have RG := 0; clear RG
      by_cases ht : rd (sortL years) j ≤ rd (sortL last) j
      · have ht' : decide (rd (sortL last) j < rd (sortL years) j) = false := decide_eq_false (by omega); go_wp2; refine wp_region_after (by kernel_rfl) (by kernel_rfl) ?_; (repeat (go_big_quiet_step (fail))); refine wpQuiet_nil ?_; intro X; go_wp2
        go_roundg k2
        case measure => omega
        case rel => exact ⟨j + 1, (by rw [IntWalk.wrap64_in _ (by have := HJ.out; have := E1.out; have := HL.out; omega), Int.natCast_add, Int.natCast_one]), ⟨by have := HJ.out; omega⟩, ⟨fun i hi => (Nat.lt_or_eq_of_le (Nat.le_of_lt_succ hi)).elim (fun h => HI.out i h) (fun h => h ▸ ht)⟩, ⟨below_step HW.out X.hb⟩⟩
      · have ht' : decide (rd (sortL last) j < rd (sortL years) j) = true := decide_eq_true (by omega); go_wp2; refine wp_region_after (by kernel_rfl) (by kernel_rfl) ?_; (repeat (go_big_quiet_step (fail))); refine wpQuiet_nil ?_; intro X; go_wp2; go_ret; exact ⟨by rw [fit_false j (by have := HJ.out; have := E1.out; omega) (by omega)]; rfl, below_step (below_step HB2.out HW.out) X.hb⟩
end Go.Proofs.YtdmdahafiiggiaaGreatDoor.K
end
section
namespace Go.Proofs.YtdmdahafiiggiaaGreatDoor.K
open Go.RowKit Go.Proofs.YtdmdahafiiggiaaGreatDoorW.PrintWords Go.Proofs.YtdmdahafiiggiaaGreatDoorW.PrintLast Go.Proofs.YtdmdahafiiggiaaGreatDoorW.PrintMore
theorem isAge_any (x : Int) (w : World) : Calls Tryz.prog 56 #[.int .i64 x] w fun e w' => e = .returned (.bool (inB x 0 200)) ∧ w = w' := by
  go_enter Tryz.func56, Tryz.ntmps56
  go_wp2_with (go_at_call 67; refine (in_any _ _ _ _).mono ?_; rintro e w' ⟨rfl, rfl⟩)
  go_ret; exact ⟨rfl, rfl⟩
theorem areAges1_any (x : Int) (w : World) : Calls Tryz.prog 102 #[.int .i64 x] w fun e w' => e = .returned (.bool (!inB x 0 200)) ∧ w = w' := by
  go_enter Tryz.func102, Tryz.ntmps102
  go_wp2_with (go_at_call 56; refine (isAge_any _ _).mono ?_; rintro e w' ⟨rfl, rfl⟩)
  go_ret; exact ⟨rfl, rfl⟩
def areAgesB (n : Nat) (ages : List Int) : Bool := ages.length == n && ages.all (fun x => inB x 0 200)
def channel_areAges.f (sp : List Int) (st : List S32) (ages : List Int) : Option Bool := if ages.length ≤ 9223372036854775807 then some (areAgesB st.length ages) else none
theorem channel_areAges.calls (A0_0 : Option Addr) (c0_0 : Nat) (l0_0 : List Int) (A0_1 : Option Addr) (c0_1 : Nat) (l0_1 : List S32) (A1 : Option Addr) (c1 : Nat) (l1 : List Int) (r : Bool) (w : World) (hr0_0 : Kd.C (Kd.int .i64) w A0_0 l0_0.length l0_0) (hc0_0 : l0_0.length ≤ c0_0) (hr0_1 : Kd.C k32 w A0_1 l0_1.length l0_1) (hc0_1 : l0_1.length ≤ c0_1) (hr1 : Kd.C (Kd.int .i64) w A1 l1.length l1) (hc1 : l1.length ≤ c1) (h : channel_areAges.f l0_0 l0_1 l1 = some r) :
    Calls Tryz.prog 59 #[.agg #[.slice A0_0 l0_0.length c0_0, .slice A0_1 l0_1.length c0_1], .slice A1 l1.length c1] w fun e w' => e = .returned (.bool r) ∧ Below w.heap.size w w' := by
  unfold channel_areAges.f at h
  by_cases hl : l1.length ≤ 9223372036854775807
  case neg => rw [if_neg hl] at h; cases h
  rw [if_pos hl] at h; obtain rfl := Option.some.inj h; clear h; have hu2 := Tryz.underlying25; obtain ⟨w1, hw1⟩ : ∃ w1, w.alloc (.cells #[.slice A0_0 l0_0.length c0_0, .slice A0_1 l0_1.length c0_1] 25) = w1 := ⟨_, rfl⟩; have hB1 : Below w.heap.size w w1 := by rw [← hw1]; exact (Below.refl _ _).alloc (Nat.le_refl _) _
  have hcell1 : w1.cell? ⟨w.heap.size, 1, none⟩ = some (.slice A0_1 l0_1.length c0_1) := by rw [← hw1]; simp [go_sem]
  have c90 := contFuncInt A1 c1 l1 102 #[] (fun x => !inB x 0 200) w1 (Kd.C_below hr1 hB1) hc1 hl (enters_of Tryz.func102 (by kernel_rfl) rfl) (fun W x _ => (areAges1_any x W).mono fun e w' ⟨he, hw⟩ => ⟨he, hw ▸ Below.refl _ _⟩); rw [any_not_all] at c90; clear hr0_0 hr0_1 hr1
  by_cases he : l1.length = l0_1.length
  · have he1 : ((l1.length : Int) == (l0_1.length : Int)) = true := by rw [he]; simp
    have he2 : (l1.length == l0_1.length) = true := by rw [he]; simp
    cases h3 : l1.all (fun x => inB x 0 200) with
    | false =>
      rw [h3] at c90; have HE := Aside0.mk he; clear he
      go_enter Tryz.func59, Tryz.ntmps59
      go_wp2_with (go_at_call 90; refine c90.mono ?_; rintro e w' ⟨rfl, hb⟩)
      go_ret; exact ⟨by simp [areAgesB, h3], below_step hB1 hb⟩
    | true =>
      rw [h3] at c90; have HE := Aside0.mk he; clear he
      go_enter Tryz.func59, Tryz.ntmps59
      go_wp2_with (go_at_call 90; refine c90.mono ?_; rintro e w' ⟨rfl, hb⟩)
      go_ret; exact ⟨by simp [areAgesB, h3, HE.out], below_step hB1 hb⟩
  · have he1 : ((l1.length : Int) == (l0_1.length : Int)) = false := by rw [beq_eq_false_iff_ne]; omega
    have he2 : (l1.length == l0_1.length) = false := by rw [beq_eq_false_iff_ne]; exact he
    go_enter Tryz.func59, Tryz.ntmps59
    go_wp2; go_ret; exact ⟨by simp [areAgesB, he], hB1⟩
end Go.Proofs.YtdmdahafiiggiaaGreatDoor.K
end
section
namespace Go.Proofs.YtdmdahafiiggiaaGreatDoor.K
open Go.RowKit Go.Proofs.YtdmdahafiiggiaaGreatDoorW.PrintWords Go.Proofs.YtdmdahafiiggiaaGreatDoorW.PrintLast Go.Proofs.YtdmdahafiiggiaaGreatDoorW.PrintMore
theorem taken_any (x : Int) (TB mb : Nat) (T : List Int) (W : World) (hT : W.cell? ⟨TB, 0, none⟩ = some (.map (some mb))) (hS : Slots W mb T) :
    Calls Tryz.prog 73 #[.int .i64 x, .pointer (some ⟨TB, 0, none⟩)] W fun e w' => e = .returned (.bool (decide (x ∈ T))) ∧ Below W.heap.size W w' := by
  have hlk := lookup_slot hS x; have hlk2 := lookup_slot (hS.below (below_alloc (Below.refl _ W) (.cells #[] 106))) x; clear hS
  go_enter Tryz.func73, Tryz.ntmps73
  go_wp2; go_ret; exact ⟨rfl, (Below.refl _ _).alloc (Nat.le_refl _) _⟩
def leftL (ys T : List Int) : List Int := ys.filter fun x => !decide (x ∈ T)
theorem left_any (YB TB mb : Nat) (A : Option Addr) (c : Nat) (ys T : List Int) (W : World) (hY : W.cell? ⟨YB, 0, none⟩ = some (.slice A ys.length c)) (hC : Kd.C (Kd.int .i64) W A ys.length ys) (hl : ys.length ≤ 1000000) (hT : W.cell? ⟨TB, 0, none⟩ = some (.map (some mb))) (hS : Slots W mb T) :
    Calls Tryz.prog 70 #[.pointer (some ⟨YB, 0, none⟩), .pointer (some ⟨TB, 0, none⟩)] W fun e w' => ∃ v, e = .returned v ∧ Aside0 (Kd.R (Kd.int .i64) 3 w' W.heap.size (fun _ => True) v (leftL ys T)) ∧ Below W.heap.size W w' := by
  have hmf : ∀ (fn : Fn) (first cap : Array Value) (w : World), (Instr.makeFunc fn first cap).run Tryz.prog w = .ok (.func fn first cap) w := fun _ _ _ _ => rfl; have CC := Aside0.mk (clone_any A c ys W hC hl)
  have CD : Aside0 (∀ v w1, Below W.heap.size W w1 → Kd.R (Kd.int .i64) 3 w1 W.heap.size (fun _ => True) v ys → Calls Tryz.prog 71 #[v, .func (.func 73) #[] #[.pointer (some ⟨TB, 0, none⟩)]] w1 fun e w' => ∃ v', e = .returned v' ∧ Aside0 (Kd.R (Kd.int .i64) 3 w' W.heap.size (fun _ => True) v' (leftL ys T)) ∧ Below W.heap.size w1 w') := ⟨fun v w1 hb hR =>
    delFunc_any v ys 73 #[.pointer (some ⟨TB, 0, none⟩)] (fun x => decide (x ∈ T)) W.heap.size w1 hR hl hb.size (enters_of Tryz.func73 (by kernel_rfl) rfl) (fun W' x hW => by
      have hb2 := hb.trans hW
      exact taken_any x TB mb T W' ((hb2.cell (World.block_lt_of_cell? _ _ hT)).trans hT) (hS.below hb2))⟩
  clear hC hS
  go_enter Tryz.func70, Tryz.ntmps70
  go_wp2_with fail
  refine CC.out.mono ?_; rintro e w1 ⟨v, rfl, HR, hb⟩; obtain ⟨A1, c1, ev⟩ := Kd.R_slice HR.out; subst ev
  go_wp2_with fail
  refine (CD.out _ w1 hb HR.out).mono ?_; rintro e w2 ⟨v2, rfl, HR2, hb2⟩; go_wp2; go_ret; exact ⟨_, rfl, HR2, hb.trans hb2⟩
end Go.Proofs.YtdmdahafiiggiaaGreatDoor.K
end
section
namespace Go.Proofs.YtdmdahafiiggiaaGreatDoor.K
open Go.RowKit Go.Shelf Go.Proofs.YtdmdahafiiggiaaGreatDoorW.PrintWords Go.Proofs.YtdmdahafiiggiaaGreatDoorW.PrintLast Go.Proofs.YtdmdahafiiggiaaGreatDoorW.PrintMore
theorem sort_any (v : Value) (zs : List Int) (base : Nat) (W : World) (h : Kd.R (Kd.int .i64) 3 W base (fun _ => True) v zs) (hl : zs.length ≤ 1000000) :
    Calls Tryz.prog 69 #[v] W fun e w' => e = .returned (.tuple #[]) ∧ Kd.R (Kd.int .i64) 3 w' base (fun _ => True) v (sortL zs) ∧ W.grownBy w' v.ownBlock := by
  have hrow := Kd.own_of_R h
  rcases hrow.2 with ⟨rfl, hz⟩ | ⟨gb, cap', cur, rfl, hbase, hgb, r1, r2, r3, r4⟩
  · obtain rfl : zs = [] := List.eq_nil_of_length_eq_zero hz; refine (AnyM.slices_Sort_int_none Tryz.sortA none 0 W).mono ?_; rintro e w' ⟨rfl, rfl⟩; exact ⟨rfl, by rw [show sortL [] = [] by simp [sortL]]; exact h, World.grownBy.refl _ _⟩
  · have hH : Sort.Holds (Value.int .i64) W gb 0 zs.toArray := holds_of_block_i hgb (by rw [Nat.mul_one] at r4; exact r4); have hgl : gb < W.heap.size := (Array.getElem?_eq_some_iff.1 hgb).1; refine (AnyM.slices_Sort_int Tryz.sortA gb 0 cap' zs W hH hgl (by omega)).mono ?_; rintro e w' ⟨rfl, nn, os, rfl⟩; have hR := ownsRow_sorted_i (n := nn) (os := os) (ts := sortL zs) (ss := zs) (sortL_length zs) hbase hgb r1 r2 r3; refine ⟨rfl, Kd.R_of_own (by rw [sortL_length]; exact hR) (fun _ _ => trivial), grownBy_sorted_i _⟩
end Go.Proofs.YtdmdahafiiggiaaGreatDoor.K
end
section
namespace Go.Proofs.YtdmdahafiiggiaaGreatDoor.K
open Go.RowKit Go.Proofs.YtdmdahafiiggiaaGreatDoorW.PrintWords Go.Proofs.YtdmdahafiiggiaaGreatDoorW.PrintLast Go.Proofs.YtdmdahafiiggiaaGreatDoorW.PrintMore
attribute [local go_sem] max2_int min2_int max_two min_two max_three min_three max_four min_four
def channel_in.f (a0 : Int) (a1 : Int) (a2 : Int) : Option (Bool) := if a0 ≥ a1 then (some (decide (a0 ≤ a2))) else (some false)
set_option maxHeartbeats 8000000 in
set_option maxRecDepth 100000 in
theorem channel_in.calls (a0 : Int) (a1 : Int) (a2 : Int) (r : Bool) (w : World) (h : channel_in.f a0 a1 a2 = some r) :
  Calls Tryz.prog 67 #[.int .i64 a0, .int .i64 a1, .int .i64 a2] w fun e w' => e = .returned (.bool r) ∧ Drawn0 w w' := by
 have H : (if a0 ≥ a1 then (some (decide (a0 ≤ a2))) else (some false)) = some r := h; clear h
 by_cases c4 : a0 ≥ a1
 ·rw [if_pos c4] at H; replace c4 := decide_eq_true c4; obtain rfl := Option.some.inj H
  go_enter Tryz.func67, Tryz.ntmps67
  go_wp2; go_ret; exact ⟨u0, by repeat (first | exact Drawn0.refl _ | apply Drawn0.step)⟩
 ·rw [if_neg c4] at H; replace c4 := decide_eq_false c4; obtain rfl := Option.some.inj H
  go_enter Tryz.func67, Tryz.ntmps67
  go_wp2; go_ret; exact ⟨u0, by repeat (first | exact Drawn0.refl _ | apply Drawn0.step)⟩
end Go.Proofs.YtdmdahafiiggiaaGreatDoor.K
end
section
namespace Go.Proofs.YtdmdahafiiggiaaGreatDoor.K
open Go.RowKit Go.Proofs.YtdmdahafiiggiaaGreatDoorW.PrintWords Go.Proofs.YtdmdahafiiggiaaGreatDoorW.PrintLast Go.Proofs.YtdmdahafiiggiaaGreatDoorW.PrintMore
attribute [local go_sem] max2_int min2_int max_two min_two max_three min_three max_four min_four
def channel_isNeed.f (a0 : Int) : Option (Bool) := (channel_in.f a0 1 10000000).bind fun t200 => (some t200)
set_option maxHeartbeats 8000000 in
set_option maxRecDepth 100000 in
theorem channel_isNeed.calls (a0 : Int) (r : Bool) (w : World) (h : channel_isNeed.f a0 = some r) :
  Calls Tryz.prog 63 #[.int .i64 a0] w fun e w' => e = .returned (.bool r) ∧ Drawn0 w w' := by
 have H : ((channel_in.f a0 1 10000000).bind fun t200 => (some t200)) = some r := h; clear h; replace H := Option.bind_eq_some_iff.mp H; obtain ⟨t200, A20, H⟩ := H; replace H : (some t200) = some r := H; have A2 := Aside0.mk A20; clear A20; obtain rfl := Option.some.inj H
 go_enter Tryz.func63, Tryz.ntmps63
 go_wp2_with (first | ((with_reducible refine gate_callee (f := 67) rfl ?_); refine goesL_ (some 4) rfl rfl Tryz.func67 (by kernel_rfl) rfl #[.int .i64 a0, .int .i64 1, .int .i64 10000000] rfl uM ?_; (with_reducible refine (channel_in.calls a0 1 10000000 t200 _ A2.out).mono ?_); rintro e w' ⟨rfl, ⟨nd, rfl⟩⟩; refine ⟨_, rfl, ?_⟩))
 go_ret; exact ⟨u0, by repeat (first | exact Drawn0.refl _ | apply Drawn0.step)⟩
end Go.Proofs.YtdmdahafiiggiaaGreatDoor.K
end
