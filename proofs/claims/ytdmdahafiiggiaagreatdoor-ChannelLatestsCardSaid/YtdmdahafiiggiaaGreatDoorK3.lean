/- The walks of the functions that the laws of this seat call, and what they compute; joined out of smaller texts, part 3. -/
import Derived.Outline
import Derived.IntWalk
import Derived.Scope
import Derived.Deep.QuietTactic
import Derived.BigQuiet
import Derived.Deep.Slices
import Derived.ProofKit
import Derived.OpenShut
import Derived.Test.YtdmdahafiiggiaaGreatDoorProg
import Derived.Shelf.Strconv.Itoa3
import Derived.Shelf.Strings.Split
import Derived.Test.YtdmdahafiiggiaaGreatDoorK2
set_option linter.unusedVariables false
set_option linter.unusedSimpArgs false
section
namespace Go.Proofs.YtdmdahafiiggiaaGreatDoor.K
open Go.RowKit Go.Proofs.YtdmdahafiiggiaaGreatDoorW.PrintWords Go.Proofs.YtdmdahafiiggiaaGreatDoorW.PrintLast Go.Proofs.YtdmdahafiiggiaaGreatDoorW.PrintMore
theorem isNeed_any (x : Int) (w : World) : Calls Tryz.prog 63 #[.int .i64 x] w fun e w' => e = .returned (.bool (inB x 1 10000000)) ∧ w = w' := by
  go_enter Tryz.func63, Tryz.ntmps63
  go_wp2_with (go_at_call 67; refine (in_any _ _ _ _).mono ?_; rintro e w' ⟨rfl, rfl⟩)
  go_ret; exact ⟨rfl, rfl⟩
def planB (sp : List Int) (st : List S32) (ages : List Int) (need untl : Int) : Bool := isLineB sp st && areAgesB st.length ages && inB need 1 10000000 && inB untl 0 40
def stepDue (x a untl : Int) (k : Nat) (s : List Int × List Int) : List Int × List Int := if x < 200 ∧ x - a < untl then (s.1 ++ [(k : Int)], s.2 ++ [x - a]) else s
def dueF (L : Int → Int) (ages : List Int) (untl : Int) : Nat → Option (List Int × List Int)
  | 0 => some ([], [])
  | k + 1 => (dueF L ages untl k).bind fun s => if L k < 0 then none else some (stepDue (L k) (rd ages k) untl k s)
theorem dueF_none {L : Int → Int} {ages : List Int} {untl : Int} {k : Nat} (h : dueF L ages untl k = none) : ∀ d, dueF L ages untl (k + d) = none
  | 0 => h
  | d + 1 => by
    show (dueF L ages untl (k + d)).bind _ = none
    rw [dueF_none h d]; rfl
theorem dueF_len {L : Int → Int} {ages : List Int} {untl : Int} : ∀ {k : Nat} {s : List Int × List Int}, dueF L ages untl k = some s → s.1.length ≤ k ∧ s.2.length = s.1.length
  | 0, s, h => by obtain rfl := Option.some.inj h; simp
  | k + 1, s, h => by
    obtain ⟨s0, h0, h⟩ := Option.bind_eq_some_iff.1 h
    split at h
    · cases h
    · have := dueF_len h0; obtain rfl := Option.some.inj h; unfold stepDue
      split
      · simp; omega
      · omega
theorem dueF_mem {L : Int → Int} {ages : List Int} {untl : Int} : ∀ {k : Nat} {s : List Int × List Int}, dueF L ages untl k = some s → ∀ n ∈ s.1, 0 ≤ n ∧ n < k
  | 0, s, h, n, hn => by obtain rfl := Option.some.inj h; cases hn
  | k + 1, s, h, n, hn => by
    obtain ⟨s0, h0, h⟩ := Option.bind_eq_some_iff.1 h
    split at h
    · cases h
    · have := dueF_mem h0; obtain rfl := Option.some.inj h; unfold stepDue at hn
      split at hn
      · rcases List.mem_append.1 hn with hn | hn
        · have := this n hn; omega
        · simp at hn; omega
      · have := this n hn; omega
def okY (ys last : List Int) (i : Nat) (T : List Int) (y : Int) : Bool := decide (y ≤ rd last i) && fitB (last.drop (i + 1)) (leftL ys (T ++ [y]))
def pickF (ys last : List Int) (i : Nat) (T : List Int) : Option Int := (leftL ys T).find? (okY ys last i T)
def stepPick (ys last due : List Int) (i : Nat) (s : List Int × List Int) : List Int × List Int := match pickF ys last i s.1 with
  | none => s
  | some y => (s.1 ++ [y], s.2.set (rd due i).toNat y)
def picks2 {α : Type} : Nat → (Nat → α → α) → α → α
  | 0, _, a => a
  | n + 1, f, a => f n (picks2 n f a)
def picksF (ys last due plan : List Int) (k : Nat) : List Int × List Int := picks2 k (stepPick ys last due) ([], plan)
def planF (sp : List Int) (st : List S32) (ages : List Int) (need untl : Int) : List Int × Int :=
  if planB sp st ages need untl = true then
    match dueF (fun n => latN sp st n need) ages untl ages.length with
    | none => ([], 5)
    | some (due, last) => if (grN last).length = last.length then ((picksF (sortL (grN last)) last due (List.replicate ages.length (-1)) due.length).2, 0) else ([], 5)
  else ([], 2)
set_option maxRecDepth 100000 in
set_option maxHeartbeats 1000000 in
theorem plan_bad (sp : List Int) (st : List S32) (A0 A1 A2 : Option Addr) (c0 c1 c2 : Nat) (ages : List Int) (need untl : Int) (w : World)
    (hr0 : Kd.C (Kd.int .i64) w A0 sp.length sp) (hc0 : sp.length ≤ c0) (hr1 : Kd.C k32 w A1 st.length st) (hc1 : st.length ≤ c1) (hr2 : Kd.C (Kd.int .i64) w A2 ages.length ages) (hc2 : ages.length ≤ c2)
    (hsp : sp.length ≤ 9223372036854775807) (hst : st.length ≤ 9223372036854775807) (hag : ages.length ≤ 9223372036854775807) (hbad : planB sp st ages need untl = false) :
    Calls Tryz.prog 32 #[.agg #[.slice A0 sp.length c0, .slice A1 st.length c1], .slice A2 ages.length c2, .int .i64 need, .int .i64 untl] w fun e w' => e = .returned (.tuple #[.slice none 0 0, .int .i64 2]) ∧ Below w.heap.size w w' := by
  have hu1 := Tryz.underlying25
  have CL : Aside0 (∀ W, Below w.heap.size w W → Calls Tryz.prog 54 #[.agg #[.slice A0 sp.length c0, .slice A1 st.length c1]] W fun e w' => e = .returned (.bool (isLineB sp st)) ∧ Below W.heap.size W w') :=
    ⟨fun W hW => channel_isLine.calls A0 c0 sp A1 c1 st _ W (Kd.C_below hr0 hW) hc0 (Kd.C_below hr1 hW) hc1 (by unfold channel_isLine.f; rw [if_pos ⟨hsp, hst⟩])⟩
  have CG : Aside0 (∀ W, Below w.heap.size w W → Calls Tryz.prog 59 #[.agg #[.slice A0 sp.length c0, .slice A1 st.length c1], .slice A2 ages.length c2] W fun e w' => e = .returned (.bool (areAgesB st.length ages)) ∧ Below W.heap.size W w') :=
    ⟨fun W hW => channel_areAges.calls A0 c0 sp A1 c1 st A2 c2 ages _ W (Kd.C_below hr0 hW) hc0 (Kd.C_below hr1 hW) hc1 (Kd.C_below hr2 hW) hc2 (by unfold channel_areAges.f; rw [if_pos hag])⟩
  clear hr0 hr1 hr2
  have hcase : isLineB sp st = false ∨ (isLineB sp st = true ∧ areAgesB st.length ages = false) ∨ (isLineB sp st = true ∧ areAgesB st.length ages = true ∧ inB need 1 10000000 = false) ∨ (isLineB sp st = true ∧ areAgesB st.length ages = true ∧ inB need 1 10000000 = true ∧ inB untl 0 40 = false) := by
    unfold planB at hbad
    cases h1 : isLineB sp st <;> cases h2 : areAgesB st.length ages <;> cases h3 : inB need 1 10000000 <;> cases h4 : inB untl 0 40 <;> simp [h1, h2, h3, h4] at hbad ⊢
  clear hbad
  rcases hcase with h1 | ⟨h1, h2⟩ | ⟨h1, h2, h3⟩ | ⟨h1, h2, h3, h4⟩
  all_goals
    rw [h1] at CL; try rw [h2] at CG
    go_enter Tryz.func32, Tryz.ntmps32
    go_upto_region 1 with (fail)
    generalize hW0 : World.alloc _ _ = W0; have HB0 : Aside0 (Below w.heap.size w W0) := ⟨by rw [← hW0]; exact (Below.refl _ _).alloc (Nat.le_refl _) _⟩; have HK0 : Aside0 (W0.heap[w.heap.size]? = some (.cells #[.slice A0 sp.length c0, .slice A1 st.length c1] 25 (0, 0))) := ⟨by rw [← hW0]; exact blk_new _ _⟩; clear hW0; have a1 := (blk_cell HK0.out 0).trans rfl; have a2 := (blk_cell HK0.out 1).trans rfl; simp only [List.getElem?_toArray, List.getElem?_cons_zero, List.getElem?_cons_succ] at a1 a2
    go_wp2_with (first | (go_at_call 54; refine (CL.out _ HB0.out).mono ?_; rintro e w1 ⟨rfl, hb1⟩; have HB1 := Aside0.mk (below_step HB0.out hb1); have HK1 := Aside0.mk (blk_below HK0.out hb1); clear a1 a2 hb1; have a1 : w1.cell? ⟨w.heap.size, 0, none⟩ = some (.slice A0 sp.length c0) := (blk_cell HK1.out 0).trans rfl; have a2 : w1.cell? ⟨w.heap.size, 1, none⟩ = some (.slice A1 st.length c1) := (blk_cell HK1.out 1).trans rfl) | (go_at_call 59; refine (CG.out _ HB1.out).mono ?_; rintro e w2 ⟨rfl, hb2⟩; have HB2 := Aside0.mk (below_step HB1.out hb2); clear a1 a2 hb2) | (go_at_call 63; refine (isNeed_any _ _).mono ?_; rintro e w3 ⟨rfl, rfl⟩) | (go_at_call 67; refine (in_any _ _ _ _).mono ?_; rintro e w4 ⟨rfl, rfl⟩))
    go_ret2
    first
      | exact ⟨rfl, HB2.out⟩
      | exact ⟨rfl, HB1.out⟩
abbrev OwnI (w : World) (base : Nat) (v : Value) (xs : List Int) : Prop := Kd.R (Kd.int .i64) 3 w base (fun _ => True) v xs
theorem OwnI.keep {w w1 : World} {base : Nat} {v : Value} {xs : List Int} {row : Option Nat} (h : OwnI w base v xs) (hg : w.grownBy w1 row) (hne : v.ownBlock = none ∨ v.ownBlock ≠ row) : OwnI w1 base v xs :=
  Kd.R_of_own (own_other (Kd.own_of_R h) hg hne) (fun _ _ => trivial)
theorem OwnI.weak {w : World} {b b1 : Nat} {v : Value} {xs : List Int} (h : OwnI w b v xs) (hb : b1 ≤ b) : OwnI w b1 v xs := Kd.R_of_own (own_weaken (Kd.own_of_R h) hb) (fun _ _ => trivial)
theorem grown_setP (w : World) (p : Addr) (v : Value) : w.grownBy (w.setCell p v) (some p.block) := ⟨rfl, rfl, rfl, by simp [World.setCell], fun k hk hne => Below.heap_setCell _ _ _ _ (fun e => hne (by rw [e]))⟩
theorem nodup_le : ∀ (T l : List Int), l.Nodup → (∀ x ∈ l, x ∈ T) → l.length ≤ T.length
  | [], l, _, h => by
    cases l with
    | nil => exact Nat.le_refl _
    | cons x l => exact absurd (h x (List.mem_cons_self ..)) (by simp)
  | t :: T, l, hn, h => by
    have h2 := nodup_le T (l.erase t) (hn.erase t) (fun x hx => by
      have hx2 := (hn.mem_erase_iff).1 hx
      exact (List.mem_cons.1 (h x hx2.2)).resolve_left hx2.1)
    have h3 : l.length ≤ (l.erase t).length + 1 := by
      by_cases hm : t ∈ l
      · rw [List.length_erase_of_mem hm]; have := List.length_pos_of_mem hm; omega
      · rw [List.erase_of_not_mem hm]; omega
    simp; omega
theorem left_len {ys T : List Int} (hn : ys.Nodup) : ys.length ≤ (leftL ys T).length + T.length := by
  have h1 : ys.length = (ys.filter fun x => decide (x ∈ T)).length + (leftL ys T).length := by
    unfold leftL; have := List.length_eq_countP_add_countP (fun x => decide (x ∈ T)) (l := ys); rw [List.countP_eq_length_filter, List.countP_eq_length_filter] at this
    simpa using this
  have h2 := nodup_le T (ys.filter fun x => decide (x ∈ T)) (hn.filter _) (fun x hx => by simpa using (List.mem_filter.1 hx).2)
  omega
theorem left_mem {ys T : List Int} {y : Int} (h : y ∈ leftL ys T) : y ∈ ys ∧ y ∉ T := by
  unfold leftL at h; have := List.mem_filter.1 h; exact ⟨this.1, by simpa using this.2⟩
theorem find_at {p : Int → Bool} {l : List Int} {k : Nat} (hk : k < l.length) (h : (l.take k).any p = false) (hp : p (rd l k) = true) : l.find? p = some (rd l k) := by
  have e : rd l (k : Int) = l[k] := by simp [rd, List.getD, List.getElem?_eq_getElem hk]
  rw [e] at hp ⊢; rw [List.find?_eq_some_iff_getElem]; refine ⟨hp, k, hk, rfl, fun j hj => ?_⟩; rw [List.any_eq_false] at h; have := h l[j] (by rw [List.mem_take_iff_getElem]; exact ⟨j, by omega, rfl⟩)
  simpa using this
theorem any_more {p : Int → Bool} {l : List Int} {j : Nat} (h : (l.take j).any p = false) (hj : j < l.length) (hp : p (rd l j) = false) : (l.take (j + 1)).any p = false := by
  have e : rd l (j : Int) = l[j] := by simp [rd, List.getD, List.getElem?_eq_getElem hj]
  rw [e] at hp; rw [List.take_add_one, List.any_append, h, List.getElem?_eq_getElem hj]; simp [hp]
theorem find_no {p : Int → Bool} {l : List Int} (h : l.any p = false) : l.find? p = none := by
  rw [List.find?_eq_none]; rw [List.any_eq_false] at h; exact h
def ApartV (v u : Value) : Prop := v.ownBlock = none ∨ v.ownBlock ≠ u.ownBlock
theorem ApartV.symm {v u : Value} (h : ApartV v u) : ApartV u v := by
  unfold ApartV at *
  rcases h with h | h
  · cases hu : u.ownBlock with
    | none => exact .inl rfl
    | some k => exact .inr (by rw [h]; simp)
  · exact .inr (Ne.symm h)
theorem OwnI.blk {w : World} {base : Nat} {v : Value} {xs : List Int} (h : OwnI w base v xs) {k : Nat} (hk : v.ownBlock = some k) : base ≤ k ∧ k < w.heap.size := ⟨own_base (Kd.own_of_R h) k hk, own_lt (Kd.own_of_R h) k hk⟩
theorem apart_of {w1 w2 : World} {b : Nat} {v u : Value} {xs ys : List Int} (h : OwnI w1 b v xs) (k : OwnI w2 w1.heap.size u ys) : ApartV v u := by
  cases hv : v.ownBlock with
  | none => exact .inl hv
  | some i =>
    refine .inr ?_; rw [hv]; intro e; have := (h.blk hv).2; have := (k.blk e.symm).1
    omega
theorem ApartV.grown {w : World} {base : Nat} {v u u1 : Value} {xs : List Int} (h : ApartV v u) (hv : OwnI w base v xs) (hat : u1.ownBlock = u.ownBlock ∨ ∃ b, u1.ownBlock = some b ∧ w.heap.size ≤ b) : ApartV v u1 := by
  rcases hat with e | ⟨b, e, hb⟩
  · unfold ApartV at *; rw [e]; exact h
  · cases hk : v.ownBlock with
    | none => exact .inl hk
    | some k => exact .inr (by rw [hk, e]; have := (hv.blk hk).2; intro x; cases x; omega)
theorem plan_case {sp : List Int} {st : List S32} {ages : List Int} {need untl : Int} (h : planB sp st ages need untl = true) : isLineB sp st = true ∧ areAgesB st.length ages = true ∧ inB need 1 10000000 = true ∧ inB untl 0 40 = true := by
  unfold planB at h; simp only [Bool.and_eq_true] at h; exact ⟨h.1.1.1, h.1.1.2, h.1.2, h.2⟩
theorem ages_of {n : Nat} {ages : List Int} (h : areAgesB n ages = true) : ages.length = n ∧ ∀ k : Nat, k < n → 0 ≤ rd ages k ∧ rd ages k ≤ 200 := by
  simp only [areAgesB, Bool.and_eq_true, beq_iff_eq] at h; refine ⟨h.1, fun k hk => ?_⟩; have hlt : k < ages.length := by omega
  have := List.all_eq_true.mp h.2 _ (List.getElem_mem hlt); simp only [inB, Bool.and_eq_true, decide_eq_true_eq] at this; have e : rd ages (k : Int) = ages[k] := by simp [rd, List.getD, List.getElem?_eq_getElem hlt]
  rw [e]; exact this
theorem Slots.grown {w w1 : World} {b : Nat} {T : List Int} {row : Option Nat} (h : Slots w b T) (hg : w.grownBy w1 row) (hne : some b ≠ row) : Slots w1 b T := by
  obtain ⟨es, c, h1, h2, h3⟩ := h; exact ⟨es, c, blk_grown h1 hg hne, h2, h3⟩
structure PAt (b2 b1 : Nat) (w2 : World) (pv dv lv yv : Value) (YB MB : Nat) (due last ys plan T : List Int) (W : World) : Prop where
  p : OwnI W b2 pv plan
  d : OwnI W b2 dv due
  l : OwnI W b2 lv last
  y : OwnI W b1 yv ys
  yb : W.heap[YB]? = some (.cells #[yv] 22 (0, 0))
  tb : W.heap[MB + 1]? = some (.cells #[.map (some MB)] 103 (0, 0))
  sl : Slots W MB T
  bl : Below b2 w2 W
  pd : ApartV pv dv
  pl : ApartV pv lv
  py : ApartV pv yv
  ne : ∀ k, (pv.ownBlock = some k ∨ dv.ownBlock = some k ∨ lv.ownBlock = some k ∨ yv.ownBlock = some k) → k < MB ∧ k ≠ YB
  yl : b2 ≤ MB ∧ YB < MB
theorem PAt.below {b2 b1 : Nat} {w2 : World} {pv dv lv yv : Value} {YB MB : Nat} {due last ys plan T : List Int} {W W1 : World} (h : PAt b2 b1 w2 pv dv lv yv YB MB due last ys plan T W) (hb : Below W.heap.size W W1) : PAt b2 b1 w2 pv dv lv yv YB MB due last ys plan T W1 :=
  { h with p := Kd.R_below h.p hb, d := Kd.R_below h.d hb, l := Kd.R_below h.l hb, y := Kd.R_below h.y hb, yb := blk_below h.yb hb, tb := blk_below h.tb hb, sl := h.sl.below hb, bl := h.bl.trans (hb.mono (Nat.le_trans h.yl.1 (Nat.le_of_lt h.sl.lt))) }
theorem PAt.map {b2 b1 : Nat} {w2 : World} {pv dv lv yv : Value} {YB MB : Nat} {due last ys plan T T1 : List Int} {W : World} {o : Obj} (h : PAt b2 b1 w2 pv dv lv yv YB MB due last ys plan T W) (hs : Slots (setMap W MB o) MB T1) : PAt b2 b1 w2 pv dv lv yv YB MB due last ys plan T1 (setMap W MB o) :=
  { h with
    p := h.p.keep (setMap_grown W MB o) (.inr fun e => absurd (h.ne MB (.inl e)).1 (Nat.lt_irrefl _))
    d := h.d.keep (setMap_grown W MB o) (.inr fun e => absurd (h.ne MB (.inr (.inl e))).1 (Nat.lt_irrefl _))
    l := h.l.keep (setMap_grown W MB o) (.inr fun e => absurd (h.ne MB (.inr (.inr (.inl e)))).1 (Nat.lt_irrefl _))
    y := h.y.keep (setMap_grown W MB o) (.inr fun e => absurd (h.ne MB (.inr (.inr (.inr e)))).1 (Nat.lt_irrefl _))
    yb := (setMap_other (Nat.ne_of_lt h.yl.2)).trans h.yb
    tb := (setMap_other (Nat.succ_ne_self MB)).trans h.tb
    sl := hs
    bl := h.bl.trans (setMap_below h.yl.1) }
theorem PAt.put {b2 b1 m : Nat} {w2 : World} {dv lv yv : Value} {YB MB : Nat} {due last ys plan T : List Int} {W : World} (h : PAt b2 b1 w2 (.slice (some ⟨b2, 0, none⟩) m m) dv lv yv YB MB due last ys plan T W) (i x : Int) : PAt b2 b1 w2 (.slice (some ⟨b2, 0, none⟩) m m) dv lv yv YB MB due last ys (plan.set i.toNat x) T (W.setCell ⟨b2, i.toNat, none⟩ (.int .i64 x)) := by
  have hg := grown_setP W ⟨b2, i.toNat, none⟩ (.int .i64 x); have e : (Value.slice (some ⟨b2, 0, none⟩) m m).ownBlock = some b2 := rfl
  exact { h with
    p := Kd.R_putn h.p i x
    d := h.d.keep hg h.pd.symm
    l := h.l.keep hg h.pl.symm
    y := h.y.keep hg h.py.symm
    yb := blk_grown h.yb hg (by intro e2; exact (h.ne b2 (.inl e)).2 (by cases e2; rfl))
    tb := blk_grown h.tb hg (by intro e2; have := h.yl.1; have e3 : MB + 1 = b2 := Option.some.inj e2; omega)
    sl := h.sl.grown hg (by intro e2; have := (h.ne b2 (.inl e)).1; have e3 : MB = b2 := Option.some.inj e2; omega)
    bl := h.bl.setCell (Nat.le_refl _) _ }
def minus (k m : Nat) : List Int := List.replicate k (-1) ++ List.replicate (m - k) 0
theorem minus_set {k m : Nat} (h : k < m) : (minus k m).set k (-1) = minus (k + 1) m := by
  unfold minus; rw [List.set_append_right _ _ (by simp), List.length_replicate, Nat.sub_self, List.replicate_succ', List.append_assoc]; obtain ⟨d, hd⟩ : ∃ d, m - k = d + 1 := ⟨m - k - 1, by omega⟩; rw [hd, show m - (k + 1) = d by omega, List.replicate_succ]
  rfl
set_option maxRecDepth 100000 in
set_option maxHeartbeats 4000000 in
theorem plan_good (sp : List Int) (st : List S32) (A0 A1 A2 : Option Addr) (c0 c1 c2 : Nat) (ages : List Int) (need untl : Int) (w : World)
    (hr0 : Kd.C (Kd.int .i64) w A0 sp.length sp) (hc0 : sp.length ≤ c0) (hr1 : Kd.C k32 w A1 st.length st) (hc1 : st.length ≤ c1) (hr2 : Kd.C (Kd.int .i64) w A2 ages.length ages) (hc2 : ages.length ≤ c2)
    (hok : planB sp st ages need untl = true) :
    Calls Tryz.prog 32 #[.agg #[.slice A0 sp.length c0, .slice A1 st.length c1], .slice A2 ages.length c2, .int .i64 need, .int .i64 untl] w fun e w' => ∃ v, e = .returned (.tuple #[v, .int .i64 (planF sp st ages need untl).2]) ∧ OwnI w' w.heap.size v (planF sp st ages need untl).1 ∧ Below w.heap.size w w' := by
  have hu1 := Tryz.underlying25; have hmf : ∀ (fn : Fn) (first cap : Array Value) (w : World), (Instr.makeFunc fn first cap).run Tryz.prog w = .ok (.func fn first cap) w := fun _ _ _ _ => rfl; obtain ⟨h1, h2, h3, h4⟩ := plan_case hok; have hlens := line_lens h1; obtain ⟨hal, har⟩ := ages_of h2
  have CL : Aside0 (∀ W, Below w.heap.size w W → Calls Tryz.prog 54 #[.agg #[.slice A0 sp.length c0, .slice A1 st.length c1]] W fun e w' => e = .returned (.bool true) ∧ Below W.heap.size W w') :=
    ⟨fun W hW => h1 ▸ channel_isLine.calls A0 c0 sp A1 c1 st _ W (Kd.C_below hr0 hW) hc0 (Kd.C_below hr1 hW) hc1 (by unfold channel_isLine.f; rw [if_pos ⟨by omega, by omega⟩])⟩
  have CG : Aside0 (∀ W, Below w.heap.size w W → Calls Tryz.prog 59 #[.agg #[.slice A0 sp.length c0, .slice A1 st.length c1], .slice A2 ages.length c2] W fun e w' => e = .returned (.bool true) ∧ Below W.heap.size W w') :=
    ⟨fun W hW => h2 ▸ channel_areAges.calls A0 c0 sp A1 c1 st A2 c2 ages _ W (Kd.C_below hr0 hW) hc0 (Kd.C_below hr1 hW) hc1 (Kd.C_below hr2 hW) hc2 (by unfold channel_areAges.f; rw [if_pos (by omega)])⟩
  have CT : Aside0 (∀ W (n : Nat), Below w.heap.size w W → n < st.length → Calls Tryz.prog 64 #[.agg #[.slice A0 sp.length c0, .slice A1 st.length c1], .int .i64 (n : Int), .int .i64 need] W fun e w' => e = .returned (.int .i64 (latN sp st n need)) ∧ Below W.heap.size W w') :=
    ⟨fun W n hW hn => channel_latest.calls 1000 A0 c0 sp A1 c1 st n need _ W (Kd.C_below hr0 hW) hc0 (Kd.C_below hr1 hW) hc1 (latest_eq h1 (by omega) (by omega) need 1000 (by omega))⟩
  have HC2 := Aside0.mk hr2; have HAR := Aside0.mk har; have HLEN := Aside0.mk (And.intro hlens hal)
  have HPF : Aside0 (planF sp st ages need untl = match dueF (fun n => latN sp st n need) ages untl ages.length with
    | none => ([], 5)
    | some (due, last) => if (grN last).length = last.length then ((picksF (sortL (grN last)) last due (List.replicate ages.length (-1)) due.length).2, 0) else ([], 5)) := ⟨by unfold planF; rw [if_pos hok]⟩
  have hmk := print_make (P := Tryz.prog) 22 3 .i64 8 Tryz.underlying22 info3 (by omega) ages.length (by omega); clear hr0 hr1 hr2 hok h1 h2 har hal hlens; obtain ⟨PF, hPF⟩ : ∃ PF, planF sp st ages need untl = PF := ⟨_, rfl⟩; rw [hPF] at HPF ⊢; clear hPF; obtain ⟨L, hL⟩ : ∃ L : Int → Int, (fun n : Int => latN sp st n need) = L := ⟨_, rfl⟩; have HLR : Aside0 (∀ n, -1 ≤ L n ∧ L n ≤ 200) := ⟨fun n => by rw [← hL]; exact latN_range sp st n need⟩; have HLE : Aside0 (∀ n : Int, latN sp st n need = L n) := ⟨fun n => by rw [← hL]⟩; rw [hL] at HPF; clear hL
  go_enter Tryz.func32, Tryz.ntmps32
  go_upto_region 1 with (fail)
  generalize hW0 : World.alloc _ _ = W0; have HB0 : Aside0 (Below w.heap.size w W0) := ⟨by rw [← hW0]; exact (Below.refl _ _).alloc (Nat.le_refl _) _⟩; have HK0 : Aside0 (W0.heap[w.heap.size]? = some (.cells #[.slice A0 sp.length c0, .slice A1 st.length c1] 25 (0, 0))) := ⟨by rw [← hW0]; exact blk_new _ _⟩; clear hW0; have a1 : W0.cell? ⟨w.heap.size, 0, none⟩ = some (.slice A0 sp.length c0) := (blk_cell HK0.out 0).trans rfl; have a2 : W0.cell? ⟨w.heap.size, 1, none⟩ = some (.slice A1 st.length c1) := (blk_cell HK0.out 1).trans rfl
  go_upto_region 3 with (first | (go_at_call 54; refine (CL.out _ HB0.out).mono ?_; rintro e w1 ⟨rfl, hb1⟩; have HB1 := Aside0.mk (below_step HB0.out hb1); have HK1 := Aside0.mk (blk_below HK0.out hb1); clear a1 a2 hb1; have a1 : w1.cell? ⟨w.heap.size, 0, none⟩ = some (.slice A0 sp.length c0) := (blk_cell HK1.out 0).trans rfl; have a2 : w1.cell? ⟨w.heap.size, 1, none⟩ = some (.slice A1 st.length c1) := (blk_cell HK1.out 1).trans rfl) | (go_at_call 59; refine (CG.out _ HB1.out).mono ?_; rintro e w2 ⟨rfl, hb2⟩; have HB2 := Aside0.mk (below_step HB1.out hb2); have HK2 := Aside0.mk (blk_below HK1.out hb2); clear a1 a2 hb2) | (go_at_call 63; refine (isNeed_any _ _).mono ?_; rintro e w3 ⟨rfl, rfl⟩) | (go_at_call 67; refine (in_any _ _ _ _).mono ?_; rintro e w4 ⟨rfl, rfl⟩))
  clear CL CG; have HM : Aside0 (ages.length ≤ 8) := ⟨by have := HLEN.out; omega⟩
  go_upto_region 5 with (fail)
  generalize hWM : World.alloc w2 _ = wM
  have HOP : Aside0 (OwnI wM w2.heap.size (.slice (some ⟨w2.heap.size, 0, none⟩) ages.length ages.length) (minus 0 ages.length)) := ⟨by
    rw [← hWM]; have := own_made w2 w2.heap.size 3 .i64 ages.length (Nat.le_refl _) (by have := HM.out; omega); have e : minus 0 ages.length = List.replicate ages.length 0 := by simp [minus]
    rw [e]
    exact Kd.R_of_own (by rw [List.length_replicate]; exact this) (fun _ _ => trivial)⟩
  have HBM : Aside0 (Below w2.heap.size w2 wM) := ⟨by rw [← hWM]; exact (Below.refl _ _).alloc (Nat.le_refl _) _⟩; clear hWM hmk; have hm8 : ages.length ≤ 8 := HM.out; go_wp2; clear hm8
  go_loopg [11, 12, 48] ages.length (fun kq v11 v12 v48 w' => ∃ (j : Nat) (due last : List Int), v48 = .int .i64 (j : Int) ∧ Aside0 (j + kq = ages.length) ∧ Aside0 (dueF L ages untl j = some (due, last)) ∧ Aside0 (OwnI w' w2.heap.size (.slice (some ⟨w2.heap.size, 0, none⟩) ages.length ages.length) (minus j ages.length) ∧ OwnI w' w2.heap.size v11 due ∧ OwnI w' w2.heap.size v12 last) ∧ Aside0 (ApartV v11 v12 ∧ ApartV v11 (.slice (some ⟨w2.heap.size, 0, none⟩) ages.length ages.length) ∧ ApartV v12 (.slice (some ⟨w2.heap.size, 0, none⟩) ages.length ages.length)) ∧ Aside0 (Below w2.heap.size w2 w'))
  case atStart => exact ⟨0, [], [], rfl, ⟨by omega⟩, ⟨rfl⟩, ⟨HOP.out, Kd.R_nil _ _ _ _ _, Kd.R_nil _ _ _ _ _⟩, ⟨.inl rfl, .inl rfl, .inl rfl⟩, HBM⟩
  case round =>
    obtain ⟨j, due, last, rfl, HJ, HD, HO, HA, HW⟩ := hrel; obtain ⟨Ad, cd, ed⟩ := Kd.R_slice HO.out.2.1; obtain ⟨Al, cl, el⟩ := Kd.R_slice HO.out.2.2; subst ed el; have HLN : Aside0 (due.length ≤ j ∧ last.length = due.length) := ⟨dueF_len HD.out⟩
    cases gk with
    | zero =>
      have c3 : decide ((j : Int) < (ages.length : Int)) = false := decide_eq_false (by have := HJ.out; omega); have c4 : ¬ (j < ages.length) := by have := HJ.out; omega
      have hj : j = ages.length := by have := HJ.out; omega
      subst hj; have HBw : Aside0 (Below w.heap.size w wr) := ⟨below_then HB2.out HB2.out.size HW.out⟩; have HPL : Aside0 (OwnI wr w2.heap.size (.slice (some ⟨w2.heap.size, 0, none⟩) ages.length ages.length) (List.replicate ages.length (-1))) := ⟨by have := HO.out.1; rwa [show minus ages.length ages.length = List.replicate ages.length (-1) by simp [minus]] at this⟩; have HLL : Aside0 (last.length ≤ 8 ∧ due.length = last.length) := ⟨by have := HLN.out; have := HM.out; omega⟩
      have CGR : Aside0 (Calls Tryz.prog 68 #[.slice Al last.length cl] wr fun e w' => ∃ v0_ : Value, e = .returned (.tuple #[v0_, .bool (decide ((grN last).length = last.length))]) ∧ Kd.R (Kd.int .i64) 3 w' wr.heap.size (fun _ => True) v0_ (grN last) ∧ Below wr.heap.size wr w') := ⟨by
        obtain ⟨_, _, e1, hl1, hC1⟩ := Kd.R_reads HO.out.2.2
        cases e1
        exact channel_greatest.calls 1000 Al cl last _ _ wr hC1 hl1 (greatest_eq (by have := HLL.out; omega) 1000 (by have := HLL.out; omega))⟩
      have HPF2 : Aside0 (PF = if (grN last).length = last.length then ((picksF (sortL (grN last)) last due (List.replicate ages.length (-1)) due.length).2, 0) else ([], 5)) := ⟨by rw [HPF.out, HD.out]⟩
      go_wp2_with (fail)
      refine CGR.out.mono ?_; rintro e w4 ⟨vy, rfl, hRy, hb4⟩; obtain ⟨Ay, cy, ey⟩ := Kd.R_slice hRy; subst ey; have HRY := Aside0.mk hRy; have HB4 := Aside0.mk hb4; have HO4 : Aside0 (OwnI w4 w2.heap.size (.slice (some ⟨w2.heap.size, 0, none⟩) ages.length ages.length) (List.replicate ages.length (-1)) ∧ OwnI w4 w2.heap.size (.slice Ad due.length cd) due ∧ OwnI w4 w2.heap.size (.slice Al last.length cl) last) := ⟨Kd.R_below HPL.out hb4, Kd.R_below HO.out.2.1 hb4, Kd.R_below HO.out.2.2 hb4⟩; clear hRy hb4 CGR; obtain ⟨g, hg⟩ : ∃ g, grN last = g := ⟨_, rfl⟩; rw [hg] at HRY HPF2 ⊢; have HGE := Aside0.mk hg; clear hg c3 c4
      by_cases hen : g.length = last.length
      case neg =>
        have c5 : decide (g.length = last.length) = false := decide_eq_false hen; have HN : Aside0 (PF = ([], 5)) := ⟨by rw [HPF2.out, if_neg hen]⟩; clear hen; go_wp2
        go_ret2
        rw [HN.out]; exact ⟨_, rfl, Kd.R_nil _ _ _ _ _, (below_step HBw.out HB4.out).alloc (below_step HBw.out HB4.out).size _⟩
      case pos =>
        have c5 : decide (g.length = last.length) = true := decide_eq_true hen; have HEN := Aside0.mk hen; clear hen
        go_upto_region 18 with (fail)
        generalize hWY : World.alloc w4 _ = wY; have HYB : Aside0 (wY.heap[w4.heap.size]? = some (.cells #[.slice Ay g.length cy] 22 (0, 0))) := ⟨by rw [← hWY]; exact blk_new _ _⟩; have HBY : Aside0 (Below w4.heap.size w4 wY ∧ wY.heap.size = w4.heap.size + 1) := ⟨by rw [← hWY]; exact ⟨(Below.refl _ _).alloc (Nat.le_refl _) _, by simp⟩⟩; clear hWY; have HAP : Aside0 (ApartV (.slice (some ⟨w2.heap.size, 0, none⟩) ages.length ages.length) (.slice Ay g.length cy) ∧ ApartV (.slice Ad due.length cd) (.slice Ay g.length cy) ∧ ApartV (.slice Al last.length cl) (.slice Ay g.length cy)) := ⟨apart_of HPL.out HRY.out, apart_of HO.out.2.1 HRY.out, apart_of HO.out.2.2 HRY.out⟩; have HOY : Aside0 (OwnI wY w2.heap.size (.slice (some ⟨w2.heap.size, 0, none⟩) ages.length ages.length) (List.replicate ages.length (-1)) ∧ OwnI wY w2.heap.size (.slice Ad due.length cd) due ∧ OwnI wY w2.heap.size (.slice Al last.length cl) last ∧ OwnI wY wr.heap.size (.slice Ay g.length cy) g) := ⟨Kd.R_below HO4.out.1 HBY.out.1, Kd.R_below HO4.out.2.1 HBY.out.1, Kd.R_below HO4.out.2.2 HBY.out.1, Kd.R_below HRY.out HBY.out.1⟩; have HSRT := Aside0.mk (sort_any (.slice Ay g.length cy) g wr.heap.size wY HOY.out.2.2.2 (by have := HEN.out; have := HLL.out; omega)); have y0 : wY.cell? ⟨w4.heap.size, 0, none⟩ = some (.slice Ay g.length cy) := (blk_cell HYB.out 0).trans rfl
        go_wp2_with (fail)
        refine HSRT.out.mono ?_; rintro e w5 ⟨rfl, hRs, hgs⟩; have HRS := Aside0.mk hRs; have HGS := Aside0.mk hgs; have HO5 : Aside0 (OwnI w5 w2.heap.size (.slice (some ⟨w2.heap.size, 0, none⟩) ages.length ages.length) (List.replicate ages.length (-1)) ∧ OwnI w5 w2.heap.size (.slice Ad due.length cd) due ∧ OwnI w5 w2.heap.size (.slice Al last.length cl) last) := ⟨HOY.out.1.keep hgs HAP.out.1, HOY.out.2.1.keep hgs HAP.out.2.1, HOY.out.2.2.1.keep hgs HAP.out.2.2⟩; have HYB5 : Aside0 (w5.heap[w4.heap.size]? = some (.cells #[.slice Ay g.length cy] 22 (0, 0))) := ⟨blk_grown HYB.out hgs (by intro e; have := (OwnI.blk HRY.out e.symm).2; omega)⟩; have HB5 : Aside0 (Below w2.heap.size w2 w5 ∧ w4.heap.size + 1 ≤ w5.heap.size) := ⟨((below_step HW.out HB4.out).trans (HBY.out.1.mono (below_step HW.out HB4.out).size)).grown hgs (by have := (below_step HW.out HB4.out).size; have := HBY.out.2; omega) (by intro k hk; have := (OwnI.blk HRY.out hk).1; have := HW.out.size; omega), by have := hgs.size; have := HBY.out.2; omega⟩; clear y0 hRs hgs HSRT; have hmm := @run_makeMap Tryz.prog
        go_upto_region 21 with (fail)
        generalize hWT : World.alloc (World.alloc w5 _) _ = wT; have HBT : Aside0 (Below w5.heap.size w5 wT) := ⟨by rw [← hWT]; exact ((Below.refl _ _).alloc (Nat.le_refl _) _).alloc (by simp) _⟩
        have HTB : Aside0 (wT.heap[w5.heap.size + 1]? = some (.cells #[.map (some w5.heap.size)] 103 (0, 0))) := ⟨by
          rw [← hWT]; have := blk_new (w5.alloc (.map #[] 0)) (.cells #[.map (some w5.heap.size)] 103)
          rwa [World.size_alloc] at this⟩
        have HSL : Aside0 (Slots wT w5.heap.size []) := ⟨⟨#[], 0, by rw [← hWT]; exact blk_alloc (blk_new _ _) _, rfl, fun e he => by simp at he⟩⟩; clear hWT hmm; obtain ⟨ys, hys⟩ : ∃ ys, sortL g = ys := ⟨_, rfl⟩
        have HYS : Aside0 (ys.Nodup ∧ ys.length = last.length) := ⟨by
          rw [← hys]; refine ⟨?_, by rw [sortL_length]; exact HEN.out⟩; have hp : (sortL g).Perm g := List.mergeSort_perm _ _; rw [hp.nodup_iff, ← HGE.out]
          exact (gr_desc last 41 40 [] List.Pairwise.nil (by simp) (by omega)).1.imp (fun {a b} h => by omega)⟩
        have HPF3 : Aside0 (PF = ((picksF ys last due (List.replicate ages.length (-1)) due.length).2, 0)) := ⟨by rw [HPF2.out, if_pos HEN.out, hys]⟩; have HYN : Aside0 (g.length = ys.length) := ⟨by rw [← hys, sortL_length]⟩; rw [hys] at HRS; clear hys
        obtain ⟨b1, HP0⟩ : ∃ b1, Aside0 (PAt w2.heap.size b1 w2 (.slice (some ⟨w2.heap.size, 0, none⟩) ages.length ages.length) (.slice Ad due.length cd) (.slice Al last.length cl) (.slice Ay ys.length cy) w4.heap.size w5.heap.size due last ys (List.replicate ages.length (-1)) [] wT) := ⟨wr.heap.size, ⟨by rw [← HYN.out]; exact {
          p := Kd.R_below HO5.out.1 HBT.out
          d := Kd.R_below HO5.out.2.1 HBT.out
          l := Kd.R_below HO5.out.2.2 HBT.out
          y := Kd.R_below HRS.out HBT.out
          yb := blk_below HYB5.out HBT.out
          tb := HTB.out
          sl := HSL.out
          bl := below_step HB5.out.1 HBT.out
          pd := HA.out.2.1.symm
          pl := HA.out.2.2.symm
          py := HAP.out.1
          ne := fun k hk => by
            have e4 := HB4.out.size; have e5 := HB5.out.2; have ew := HW.out.size
            rcases hk with hk | hk | hk | hk
            · have := (OwnI.blk HO4.out.1 hk).2; omega
            · have := (OwnI.blk HO4.out.2.1 hk).2; omega
            · have := (OwnI.blk HO4.out.2.2 hk).2; omega
            · have := (OwnI.blk HRY.out hk).2; omega
          yl := by
            have e4 := HB4.out.size; have e5 := HB5.out.2; have ew := HW.out.size
            exact ⟨by omega, by omega⟩ }⟩⟩
        go_wp2
        go_loopg [95] due.length (fun kq v95 W' => ∃ (i : Nat) (T plan : List Int), v95 = .int .i64 (i : Int) ∧ Aside0 (i + kq = due.length) ∧ Aside0 (picksF ys last due (List.replicate ages.length (-1)) i = (T, plan)) ∧ Aside0 (T.length ≤ i) ∧ Aside0 (PAt w2.heap.size b1 w2 (.slice (some ⟨w2.heap.size, 0, none⟩) ages.length ages.length) (.slice Ad due.length cd) (.slice Al last.length cl) (.slice Ay ys.length cy) w4.heap.size w5.heap.size due last ys plan T W'))
        case atStart => exact ⟨0, [], _, rfl, ⟨by omega⟩, ⟨rfl⟩, ⟨Nat.le_refl _⟩, HP0⟩
        case round =>
          obtain ⟨i, T, plan, rfl, HI, HPK, HTL, HP⟩ := hrel
          cases gk with
          | zero =>
            have c3 : decide ((i : Int) < (due.length : Int)) = false := decide_eq_false (by have := HI.out; omega); have HN : Aside0 (PF = (plan, 0)) := ⟨by rw [HPF3.out, show due.length = i by have := HI.out; omega, HPK.out]⟩; have c4 : ¬ (i < due.length) := by have := HI.out; omega
            go_wp2
            go_ret2
            rw [HN.out]; exact ⟨_, rfl, HP.out.p.weak HB2.out.size, below_then HB2.out HB2.out.size HP.out.bl⟩
          | succ k3 =>
            have c3 : decide ((i : Int) < (due.length : Int)) = true := decide_eq_true (by have := HI.out; omega); have p1 : (0 : Int) ≤ (i : Int) := by omega
            have p2 : (i : Int) < (due.length : Int) := by have := HI.out; omega
            obtain ⟨_, _, ed, _, hCd⟩ := Kd.R_reads HP.out.d
            cases ed
            obtain ⟨ad, ea, x0⟩ := Kd.at_int hCd i p1 p2
            cases ea
            rw [Int.toNat_natCast] at x0
            have HNM : Aside0 (0 ≤ rd due (i : Int) ∧ rd due (i : Int) < (ages.length : Int)) := ⟨by
              have hm := dueF_mem HD.out _ (show rd due (i : Int) ∈ due by
                have hlt : i < due.length := by omega
                have e : rd due (i : Int) = due[i] := by simp [rd, List.getD, List.getElem?_eq_getElem hlt]
                rw [e]; exact List.getElem_mem hlt)
              exact hm⟩
            have q1 := eq_true p1; have q2 := eq_true p2; obtain ⟨n, hn⟩ : ∃ n, rd due (i : Int) = n := ⟨_, rfl⟩; rw [hn] at x0 HNM; have HNE := Aside0.mk hn; clear hCd hn; obtain ⟨_, _, ey, _, hCy⟩ := Kd.R_reads HP.out.y
            cases ey
            have HLF := Aside0.mk (left_any w4.heap.size (w5.heap.size + 1) w5.heap.size Ay cy ys T wr ((blk_cell HP.out.yb 0).trans rfl) hCy (by have := HYS.out; have := HLL.out; omega) ((blk_cell HP.out.tb 0).trans rfl) HP.out.sl); clear hCy
            go_wp2_with (fail)
            refine HLF.out.mono ?_; rintro e w6 ⟨vC, rfl, HC6, hb6⟩; obtain ⟨AC, cC, eC⟩ := Kd.R_slice HC6.out; subst eC; have HB6 := Aside0.mk hb6; have HP6 := Aside0.mk (HP.out.below hb6); clear hb6 HLF x0 c3; obtain ⟨C, hC⟩ : ∃ C, leftL ys T = C := ⟨_, rfl⟩; rw [hC] at HC6 ⊢; have HCE := Aside0.mk hC
            have HCL : Aside0 (C.length ≤ 8) := ⟨by
              rw [← hC]; have := List.length_filter_le (fun x => !decide (x ∈ T)) ys; unfold leftL
              have := HYS.out; have := HLL.out; omega⟩
            clear hC; obtain ⟨bC, HC7⟩ : ∃ bC, Aside0 (OwnI w6 bC (.slice AC C.length cC) C ∧ w5.heap.size < bC) := ⟨wr.heap.size, ⟨HC6.out, HP.out.sl.lt⟩⟩; have hIL : i < last.length := by have := HLL.out; omega
            have HIL := Aside0.mk hIL; clear hIL; go_wp2
            go_loopg [103] C.length (fun kq v103 W' => ∃ (j : Nat), v103 = .int .i64 (j : Int) ∧ Aside0 (j + kq = C.length) ∧ Aside0 ((C.take j).any (okY ys last i T) = false) ∧ Aside0 (OwnI W' bC (.slice AC C.length cC) C) ∧ Aside0 (PAt w2.heap.size b1 w2 (.slice (some ⟨w2.heap.size, 0, none⟩) ages.length ages.length) (.slice (some ad) due.length cd) (.slice Al last.length cl) (.slice Ay ys.length cy) w4.heap.size w5.heap.size due last ys plan T W'))
            case atStart => exact ⟨0, rfl, ⟨by omega⟩, ⟨rfl⟩, ⟨HC7.out.1⟩, HP6⟩
            case round =>
              obtain ⟨j, rfl, HJ3, HNO, HCR, HPJ⟩ := hrel
              cases gk with
              | zero =>
                have c3 : decide ((j : Int) < (C.length : Int)) = false := decide_eq_false (by have := HJ3.out; omega); have c4 : ¬ (j < C.length) := by have := HJ3.out; omega
                have HPN : Aside0 (picksF ys last due (List.replicate ages.length (-1)) (i + 1) = (T, plan)) := ⟨by
                  have h1 : picksF ys last due (List.replicate ages.length (-1)) (i + 1) = stepPick ys last due i (picksF ys last due (List.replicate ages.length (-1)) i) := rfl
                  have h2 : pickF ys last i T = none := by
                    have hj : j = C.length := by have := HJ3.out; omega
                    have h3 := HNO.out; rw [hj, List.take_length] at h3; unfold pickF; rw [HCE.out]; exact find_no h3
                  rw [h1, HPK.out]; unfold stepPick
                  simp only [h2]⟩
                go_wp2
                go_roundg k3
                case measure => omega
                case rel => exact ⟨i + 1, T, plan, (by rw [IntWalk.wrap64_in _ (by have := HLL.out; have := HIL.out; omega), Int.natCast_add, Int.natCast_one]), ⟨by have := HI.out; omega⟩, HPN, ⟨by have := HTL.out; omega⟩, HPJ⟩
              | succ k4 =>
                have c3 : decide ((j : Int) < (C.length : Int)) = true := decide_eq_true (by have := HJ3.out; omega); have p1 : (0 : Int) ≤ (j : Int) := by omega
                have p2 : (j : Int) < (C.length : Int) := by have := HJ3.out; omega
                have q1 := eq_true p1; have q2 := eq_true p2; obtain ⟨_, _, eC2, _, hCC⟩ := Kd.R_reads HCR.out
                cases eC2
                obtain ⟨aC, eaC, x0⟩ := Kd.at_int hCC j p1 p2
                cases eaC
                rw [Int.toNat_natCast] at x0; obtain ⟨y, hy⟩ : ∃ y, rd C (j : Int) = y := ⟨_, rfl⟩; rw [hy] at x0; have HYE := Aside0.mk hy
                have HYL : Aside0 (y ∈ ys ∧ y ∉ T) := ⟨left_mem (by
                  have hlt : j < C.length := by omega
                  have e : rd C (j : Int) = C[j] := by simp [rd, List.getD, List.getElem?_eq_getElem hlt]
                  rw [HCE.out, ← hy, e]; exact List.getElem_mem hlt)⟩
                clear hCC hy; obtain ⟨o, hup, hs7⟩ := update_slot HPJ.out.sl y HYL.out.2; have z1 : wr.cell? ⟨w5.heap.size + 1, 0, none⟩ = some (.map (some w5.heap.size)) := (blk_cell HPJ.out.tb 0).trans rfl; have HP7 := Aside0.mk (HPJ.out.map hs7); have HC8 : Aside0 (OwnI (setMap wr w5.heap.size o) bC (.slice (some aC) C.length cC) C) := ⟨HCR.out.keep (setMap_grown _ _ _) (.inr fun e => by have := (OwnI.blk HCR.out e).1; have := HC7.out.2; omega)⟩; clear hs7
                go_upto_region 28 with (fail)
                clear hup x0 z1 q1 q2 p1 p2; generalize setMap wr w5.heap.size o = w7 at HP7 HC8 ⊢; obtain ⟨_, _, eL2, _, hCl⟩ := Kd.R_reads HP7.out.l
                cases eL2
                obtain ⟨al, eal, x0⟩ := Kd.at_int hCl i (by omega) (by have := HIL.out; omega)
                cases eal
                rw [Int.toNat_natCast] at x0; clear hCl; have p3 : (0 : Int) ≤ (i : Int) := by omega
                have p4 : (i : Int) < (last.length : Int) := by have := HIL.out; omega
                have q3 := eq_true p3; have q4 := eq_true p4; obtain ⟨l, hl⟩ : ∃ l, rd last (i : Int) = l := ⟨_, rfl⟩; rw [hl] at x0; have HLE2 := Aside0.mk hl; clear hl
                by_cases hyl : y ≤ l
                · have c5 : decide (y ≤ l) = true := decide_eq_true hyl; have hi8 : (i : Int) + 1 ≤ (last.length : Int) ∧ last.length ≤ 8 := by have := HIL.out; have := HLL.out; omega
                  have hi9 : (0 : Int) ≤ (i : Int) + 1 := by omega
                  have HW1 : Aside0 (wrap64 ((i : Int) + 1) = (i : Int) + 1) := ⟨IntWalk.wrap64_in _ (by omega)⟩
                  have HFT : Aside0 (∀ W AF cF (zs : List Int), Below w7.heap.size w7 W → Kd.C (Kd.int .i64) W AF zs.length zs → zs.length ≤ 1000000 → last.length - (i + 1) ≤ zs.length → Calls Tryz.prog 74 #[.slice (if cl = i + 1 then some al else some (al.add (i + 1))) (last.length - (i + 1)) (cl - (i + 1)), .slice AF zs.length cF] W fun e w' => e = .returned (.bool (fitB (last.drop (i + 1)) zs)) ∧ Below W.heap.size W w') := ⟨fun W AF cF zs hb hz hzl hle => by
                    obtain ⟨_, _, e1, hlc, hCl⟩ := Kd.R_reads HP7.out.l
                    cases e1
                    have h := Kd.C_drop (m := i + 1) (Kd.C_below hCl hb) (by have := HIL.out; omega) hlc; have hsz : (Kd.int .i64).sz = 1 := rfl; rw [hsz, Nat.mul_one] at h; have := fit_any _ AF (cl - (i + 1)) cF (last.drop (i + 1)) zs W h hz (by rw [List.length_drop]; have := HLL.out; omega) hzl (by rw [List.length_drop]; exact hle); rw [List.length_drop] at this
                    exact this⟩
                  have HLF : Aside0 (∀ W, Below w7.heap.size w7 W → Calls Tryz.prog 70 #[.pointer (some ⟨w4.heap.size, 0, none⟩), .pointer (some ⟨w5.heap.size + 1, 0, none⟩)] W fun e w' => ∃ v, e = .returned v ∧ Aside0 (OwnI w' W.heap.size v (leftL ys (T ++ [y]))) ∧ Below W.heap.size W w') := ⟨fun W hb => by
                    have hPW := HP7.out.below hb; obtain ⟨_, _, ey, _, hCy⟩ := Kd.R_reads hPW.y
                    cases ey
                    exact left_any w4.heap.size (w5.heap.size + 1) w5.heap.size Ay cy ys (T ++ [y]) W ((blk_cell hPW.yb 0).trans rfl) hCy (by have := HYS.out; have := HLL.out; omega) ((blk_cell hPW.tb 0).trans rfl) hPW.sl⟩
                  obtain ⟨aX, haX⟩ : ∃ aX, (if cl = i + 1 then some al else some (al.add (i + 1))) = aX := ⟨_, rfl⟩; have HAX := Aside0.mk haX; rw [haX] at HFT; have HI9 := Aside0.mk (And.intro hi9 hi8.1); clear haX hi8 hi9; refine start_ (n := 15) (S := fun w' => w'.cell? (al.add i) = some (.int .i64 l)) (ds := [12, 13]) #[false, false, false, false, false, false, false, false, false, false, false, false, false, false, false] (by kernel_rfl) rfl rfl x0 (fun hHeld => ?_); have HDR : Aside0 (Below w7.heap.size w7 w7.drew) := ⟨below_drew1 (Below.refl _ _)⟩; generalize w7.drew = w8 at HDR hHeld ⊢; refine pure_ (i := 0) (N := (some 111)) (v := ?_) (a' := ?_) #[true, false, false, false, false, false, false, false, false, false, false, false, false, false, false] rfl rfl (by kernel_rfl) (fun _ _ _ h => h) (Or.inl ⟨by rfl, ?_⟩) ?_ ?_; rotate_left
                  · intro w'
                    go_simp
                    with_reducible rfl
                  rotate_left
                  · simp only [Act.put, List.setIfInBounds_toArray, List.set_cons_zero, List.set_cons_succ, i64_w, i32_w]
                    rfl
                  refine pure_ (i := 1) (N := (some 112)) (v := ?_) (a' := ?_) #[true, true, false, false, false, false, false, false, false, false, false, false, false, false, false] rfl rfl (by kernel_rfl) (fun _ _ _ h => h) (Or.inl ⟨by rfl, ?_⟩) ?_ ?_; rotate_left
                  · intro w'
                    go_simp
                    with_reducible rfl
                  rotate_left
                  · simp only [Act.put, List.setIfInBounds_toArray, List.set_cons_zero, List.set_cons_succ, i64_w, i32_w]
                    rfl
                  refine pure_ (i := 2) (N := (some 113)) (v := ?_) (a' := ?_) #[true, true, true, false, false, false, false, false, false, false, false, false, false, false, false] rfl rfl (by kernel_rfl) (fun _ _ _ h => h) (Or.inl ⟨by rfl, ?_⟩) ?_ ?_; rotate_left
                  · intro w'
                    go_simp
                    with_reducible rfl
                  rotate_left
                  · simp only [Act.put, List.setIfInBounds_toArray, List.set_cons_zero, List.set_cons_succ, i64_w, i32_w]
                    rfl
                  refine pure_ (i := 3) (N := (some 114)) (v := ?_) (a' := ?_) #[true, true, true, true, false, false, false, false, false, false, false, false, false, false, false] rfl rfl (by kernel_rfl) (fun _ _ _ h => h) (Or.inl ⟨by rfl, ?_⟩) ?_ ?_; rotate_left
                  · intro w'
                    go_simp
                    with_reducible rfl
                  rotate_left
                  · simp only [Act.put, List.setIfInBounds_toArray, List.set_cons_zero, List.set_cons_succ, i64_w, i32_w]
                    rfl
                  refine take_ (i := 4) (N := (some 115)) (v := ?_) (a' := ?_) #[true, true, true, true, true, false, false, false, false, false, false, false, false, false, false] rfl rfl (by kernel_rfl) (fun _ _ _ h => h) (Or.inl ⟨by rfl, ?_⟩) hHeld ?_ ?_; rotate_left
                  · rintro w' s0
                    go_simp
                    with_reducible rfl
                  rotate_left
                  · simp only [Act.put, List.setIfInBounds_toArray, List.set_cons_zero, List.set_cons_succ, i64_w, i32_w]
                    rfl
                  refine pure_ (i := 5) (N := (some 116)) (v := ?_) (a' := ?_) #[true, true, true, true, true, true, false, false, false, false, false, false, false, false, false] rfl rfl (by kernel_rfl) (fun _ _ _ h => h) (Or.inl ⟨by rfl, ?_⟩) ?_ ?_; rotate_left
                  · intro w'
                    go_simp
                    with_reducible rfl
                  rotate_left
                  · simp only [Act.put, List.setIfInBounds_toArray, List.set_cons_zero, List.set_cons_succ, i64_w, i32_w]
                    rfl
                  refine pure_ (i := 6) (N := (some 117)) (v := ?_) (a' := ?_) #[true, true, true, true, true, true, true, false, false, false, false, false, false, false, false] rfl rfl (by kernel_rfl) (fun _ _ _ h => h) (Or.inl ⟨by rfl, ?_⟩) ?_ ?_; rotate_left
                  · intro w'
                    go_simp
                    with_reducible rfl
                  rotate_left
                  · simp only [Act.put, List.setIfInBounds_toArray, List.set_cons_zero, List.set_cons_succ, i64_w, i32_w]
                    rfl
                  refine pure_ (i := 7) (N := (some 118)) (v := ?_) (a' := ?_) #[true, true, true, true, true, true, true, true, false, false, false, false, false, false, false] rfl rfl (by kernel_rfl) (fun _ _ _ h => h) (Or.inl ⟨by rfl, ?_⟩) ?_ ?_; rotate_left
                  · intro w'
                    go_simp
                    with_reducible rfl
                  rotate_left
                  · simp only [Act.put, List.setIfInBounds_toArray, List.set_cons_zero, List.set_cons_succ, i64_w, i32_w]
                    rfl
                  refine pure_ (i := 8) (N := (some 119)) (v := ?_) (a' := ?_) #[true, true, true, true, true, true, true, true, true, false, false, false, false, false, false] rfl rfl (by kernel_rfl) (fun _ _ _ h => h) (Or.inl ⟨by rfl, ?_⟩) ?_ ?_; rotate_left
                  · intro w'
                    go_simp
                    with_reducible rfl
                  rotate_left
                  · simp only [Act.put, List.setIfInBounds_toArray, List.set_cons_zero, List.set_cons_succ, i64_w, i32_w]
                    rfl
                  refine pure_ (i := 9) (N := (some 120)) (v := ?_) (a' := ?_) #[true, true, true, true, true, true, true, true, true, true, false, false, false, false, false] rfl rfl (by kernel_rfl) (fun _ _ _ h => h) (Or.inl ⟨by rfl, ?_⟩) ?_ ?_; rotate_left
                  · intro w'
                    go_simp
                    with_reducible rfl
                  rotate_left
                  · simp only [Act.put, List.setIfInBounds_toArray, List.set_cons_zero, List.set_cons_succ, i64_w, i32_w]
                    rfl
                  refine pure_ (i := 10) (N := (some 121)) (v := .slice aX (last.length - (i + 1)) (cl - (i + 1))) (a' := ?_) #[true, true, true, true, true, true, true, true, true, true, true, false, false, false, false] rfl rfl (by kernel_rfl) (fun _ _ _ h => h) (Or.inl ⟨by rfl, ?_⟩) ?_ ?_
                  · intro w'; have haX := HAX.out; have q5 := eq_true HI9.out.1; have q6 := eq_true HI9.out.2; have hw1 := HW1.out
                    go_simp
                    exact haX
                  rotate_left
                  · simp only [Act.put, List.setIfInBounds_toArray, List.set_cons_zero, List.set_cons_succ, i64_w, i32_w]
                    rfl
                  refine pure_ (i := 11) (N := (some 122)) (v := ?_) (a' := ?_) #[true, true, true, true, true, true, true, true, true, true, true, true, false, false, false] rfl rfl (by kernel_rfl) (fun _ _ _ h => h) (Or.inl ⟨by rfl, ?_⟩) ?_ ?_; rotate_left
                  · intro w'
                    go_simp
                    with_reducible rfl
                  rotate_left
                  · simp only [Act.put, List.setIfInBounds_toArray, List.set_cons_zero, List.set_cons_succ, i64_w, i32_w]
                    rfl
                  have HP8 := Aside0.mk (HP7.out.below HDR.out); have HC9 : Aside0 (OwnI w8 bC (.slice (some aC) C.length cC) C) := ⟨Kd.R_below HC8.out HDR.out⟩; refine last_ (i := 12) (N := some 123) #[true, true, true, true, true, true, true, true, true, true, true, true, true, false, false] rfl rfl (by kernel_rfl) (by decide) (fun K hK => ?_); refine call_ 70 #[.pointer (some ⟨w4.heap.size, 0, none⟩), .pointer (some ⟨w5.heap.size + 1, 0, none⟩)] (by rfl) rfl ?_ ?_
                  · have he := enters_ Tryz.func70 (by kernel_rfl) rfl #[.pointer (some ⟨w4.heap.size, 0, none⟩), .pointer (some ⟨w5.heap.size + 1, 0, none⟩)] w8; unfold execOp; simp [resolve, Deferred.ofValue, invoke, Act.eval, he]
                  refine (HLF.out _ HDR.out).mono ?_; rintro e w9 ⟨vF, rfl, HF9, hb9⟩; obtain ⟨AF, cF, eF⟩ := Kd.R_slice HF9.out; subst eF; refine ⟨_, rfl, ?_⟩; have HP9 := Aside0.mk (HP8.out.below hb9); have HC10 : Aside0 (OwnI w9 bC (.slice (some aC) C.length cC) C) := ⟨Kd.R_below HC9.out hb9⟩; refine hK.out _ _ ?_; clear hK K; refine norm_ (a' := ?_) ?_ ?_; rotate_left
                  · show Act.put _ (some 123) _ = _
                    simp only [Act.put, List.setIfInBounds_toArray, List.set_cons_zero, List.set_cons_succ, i64_w, i32_w]
                    rfl
                  refine last_ (i := 13) (N := some 124) #[true, true, true, true, true, true, true, true, true, true, true, true, true, true, false] rfl rfl (by kernel_rfl) (by decide) (fun K hK => ?_); refine call_ 74 #[.slice aX (last.length - (i + 1)) (cl - (i + 1)), .slice AF (leftL ys (T ++ [y])).length cF] (by rfl) rfl ?_ ?_
                  · have he := enters_ Tryz.func74 (by kernel_rfl) rfl #[.slice aX (last.length - (i + 1)) (cl - (i + 1)), .slice AF (leftL ys (T ++ [y])).length cF] w9; unfold execOp; simp [resolve, Deferred.ofValue, invoke, Act.eval, he]
                  obtain ⟨_, _, eF2, _, hCF⟩ := Kd.R_reads HF9.out
                  cases eF2
                  refine (HFT.out w9 AF cF _ (HDR.out.trans (hb9.mono HDR.out.size)) hCF (by have h := List.length_filter_le (fun x => !decide (x ∈ T ++ [y])) ys; unfold leftL; have := HYS.out; have := HLL.out; omega) (by have h := left_len (T := T ++ [y]) HYS.out.1; have := HYS.out.2; have := HTL.out; simp only [List.length_append, List.length_singleton] at h; omega)).mono ?_; rintro e w10 ⟨rfl, hb10⟩; refine ⟨_, rfl, ?_⟩; have HP10 := Aside0.mk (HP9.out.below hb10); have HC11 : Aside0 (OwnI w10 bC (.slice (some aC) C.length cC) C) := ⟨Kd.R_below HC10.out hb10⟩; obtain ⟨fv, hfv⟩ : ∃ b, fitB (last.drop (i + 1)) (leftL ys (T ++ [y])) = b := ⟨_, rfl⟩; rw [hfv]; have HFV : Aside0 (okY ys last i T y = fv) := ⟨by unfold okY; rw [HLE2.out, c5, hfv]; rfl⟩; clear hfv; refine hK.out _ _ ?_; clear hK K hCF hb9 hb10; refine norm_ (a' := ?_) ?_ ?_; rotate_left
                  · show Act.put _ (some 124) _ = _
                    simp only [Act.put, List.setIfInBounds_toArray, List.set_cons_zero, List.set_cons_succ, i64_w, i32_w]
                    rfl
                  refine pure_ (i := 14) (N := some 125) (v := .bool fv) (a' := ?_) #[true, true, true, true, true, true, true, true, true, true, true, true, true, true, true] rfl rfl (by kernel_rfl) (fun _ _ _ h => h) (Or.inl ⟨by rfl, ?_⟩) ?_ ?_
                  · intro w'
                    go_simp
                  rotate_left
                  · simp only [Act.put, List.setIfInBounds_toArray, List.set_cons_zero, List.set_cons_succ, i64_w, i32_w]
                    rfl
                  refine done_ (by kernel_rfl) ?_
                  cases fv with
                  | false =>
                    have HNOK := HFV; have z1 : w10.cell? ⟨w5.heap.size + 1, 0, none⟩ = some (.map (some w5.heap.size)) := (blk_cell HP10.out.tb 0).trans rfl; obtain ⟨o2, hdel, hs9⟩ := delete_slot y HP10.out.sl HYL.out.2 0; have HP11 := Aside0.mk (HP10.out.map hs9); have HC12 : Aside0 (OwnI (setMap w10 w5.heap.size o2) bC (.slice (some aC) C.length cC) C) := ⟨HC11.out.keep (setMap_grown _ _ _) (.inr fun e => by have := (OwnI.blk HC11.out e).1; have := HC7.out.2; omega)⟩; clear hs9; go_wp2
                    go_roundg k4
                    case measure => omega
                    case rel => exact ⟨j + 1, (by rw [IntWalk.wrap64_in _ (by have := HCL.out; have := HJ3.out; omega), Int.natCast_add, Int.natCast_one]), ⟨by have := HJ3.out; omega⟩, ⟨any_more HNO.out (by have := HJ3.out; omega) (by rw [HYE.out]; exact HNOK.out)⟩, HC12, HP11⟩
                  | true =>
                    have q1 := eq_true HNM.out.1; have q2 := eq_true HNM.out.2; obtain ⟨hpc, hpf⟩ := Kd.R_celln (0 : Int) HP10.out.p n HNM.out.1 HNM.out.2
                    have HPN : Aside0 (picksF ys last due (List.replicate ages.length (-1)) (i + 1) = (T ++ [y], plan.set n.toNat y)) := ⟨by
                      have h1 : picksF ys last due (List.replicate ages.length (-1)) (i + 1) = stepPick ys last due i (picksF ys last due (List.replicate ages.length (-1)) i) := rfl
                      have h2 : pickF ys last i T = some y := by
                        have h3 := find_at (p := okY ys last i T) (l := C) (k := j) (by have := HJ3.out; omega) HNO.out (by rw [HYE.out]; exact HFV.out); rw [HYE.out] at h3; unfold pickF; rw [HCE.out]; exact h3
                      rw [h1, HPK.out]; unfold stepPick
                      simp only [h2, HNE.out]⟩
                    go_wp2; have HP11 := Aside0.mk (HP10.out.put n y)
                    go_roundg k3
                    case measure => omega
                    case rel => exact ⟨i + 1, T ++ [y], plan.set n.toNat y, (by rw [IntWalk.wrap64_in _ (by have := HLL.out; have := HIL.out; omega), Int.natCast_add, Int.natCast_one]), ⟨by have := HI.out; omega⟩, HPN, ⟨by have := HTL.out; simp; omega⟩, HP11⟩
                · have c5 : decide (y ≤ l) = false := decide_eq_false hyl; have HNOK : Aside0 (okY ys last i T y = false) := ⟨by unfold okY; rw [HLE2.out, c5]; rfl⟩
                  go_quiet (fail)
                  have HDR : Aside0 (Below w7.heap.size w7 (w7.drewN nq)) := ⟨pw_below_drewN (Below.refl _ _) _⟩; generalize w7.drewN nq = w8 at HDR ⊢; have HP8 := Aside0.mk (HP7.out.below HDR.out); have HC9 : Aside0 (OwnI w8 bC (.slice (some aC) C.length cC) C) := ⟨Kd.R_below HC8.out HDR.out⟩; have z1 : w8.cell? ⟨w5.heap.size + 1, 0, none⟩ = some (.map (some w5.heap.size)) := (blk_cell HP8.out.tb 0).trans rfl; obtain ⟨o2, hdel, hs9⟩ := delete_slot y HP8.out.sl HYL.out.2 0; have HP9 := Aside0.mk (HP8.out.map hs9); have HC10 : Aside0 (OwnI (setMap w8 w5.heap.size o2) bC (.slice (some aC) C.length cC) C) := ⟨HC9.out.keep (setMap_grown _ _ _) (.inr fun e => by have := (OwnI.blk HC9.out e).1; have := HC7.out.2; omega)⟩; clear hs9 x0 q3 q4 p3 p4; go_wp2
                  go_roundg k4
                  case measure => omega
                  case rel => exact ⟨j + 1, (by rw [IntWalk.wrap64_in _ (by have := HCL.out; have := HJ3.out; omega), Int.natCast_add, Int.natCast_one]), ⟨by have := HJ3.out; omega⟩, ⟨any_more HNO.out (by have := HJ3.out; omega) (by rw [HYE.out]; exact HNOK.out)⟩, HC10, HP9⟩
    | succ k2 =>
      have c3 : decide ((j : Int) < (ages.length : Int)) = true := decide_eq_true (by have := HJ.out; omega); have p1 : (0 : Int) ≤ (j : Int) := by omega
      have p2 : (j : Int) < (ages.length : Int) := by have := HJ.out; omega
      obtain ⟨ad2, ea2, x0⟩ := Kd.at_int HC2.out j p1 p2
      cases ea2
      rw [Int.toNat_natCast] at x0; have HBw : Aside0 (Below w.heap.size w wr) := ⟨below_then HB2.out HB2.out.size HW.out⟩; replace x0 := (HBw.out.cell (World.block_lt_of_cell? _ _ x0)).trans x0; obtain ⟨a, ha⟩ : ∃ a, rd ages (j : Int) = a := ⟨_, rfl⟩; rw [ha] at x0; have har2 := HAR.out j (by have := HLEN.out; omega); rw [ha] at har2; have HAE := Aside0.mk ha; have HKr := Aside0.mk (blk_below HK2.out HW.out); have a1 : wr.cell? ⟨w.heap.size, 0, none⟩ = some (.slice A0 sp.length c0) := (blk_cell HKr.out 0).trans rfl; have a2 : wr.cell? ⟨w.heap.size, 1, none⟩ = some (.slice A1 st.length c1) := (blk_cell HKr.out 1).trans rfl; have q1 := eq_true p1; have q2 := eq_true p2; clear ha
      go_wp2_with (fail)
      refine (CT.out wr j HBw.out (by have := HLEN.out; omega)).mono ?_; rintro e w3 ⟨rfl, hb3⟩; rw [HLE.out]; have hxr := HLR.out (j : Int); obtain ⟨x, hx⟩ : ∃ x, L (j : Int) = x := ⟨_, rfl⟩; rw [hx] at hxr ⊢; have HXE := Aside0.mk hx; have HB3 := Aside0.mk hb3; have HO3 : Aside0 (OwnI w3 w2.heap.size (.slice (some ⟨w2.heap.size, 0, none⟩) ages.length ages.length) (minus j ages.length) ∧ OwnI w3 w2.heap.size (.slice Ad due.length cd) due ∧ OwnI w3 w2.heap.size (.slice Al last.length cl) last) := ⟨Kd.R_below HO.out.1 hb3, Kd.R_below HO.out.2.1 hb3, Kd.R_below HO.out.2.2 hb3⟩; clear hx hb3 x0 a1 a2
      by_cases hx0 : x < 0
      · have c5 : decide (x < 0) = true := decide_eq_true hx0
        have hnone : PF = ([], 5) := by
          have h1 : dueF L ages untl (j + 1) = none := by
            show (dueF L ages untl j).bind _ = none
            rw [HD.out]
            show (if L (j : Int) < 0 then none else _) = _
            rw [HXE.out, if_pos hx0]
          have := dueF_none h1 k2; rw [HPF.out, show ages.length = j + 1 + k2 by have := HJ.out; omega, this]
        have HN := Aside0.mk hnone; clear hnone; go_wp2
        go_ret2
        rw [HN.out]; exact ⟨_, rfl, Kd.R_nil _ _ _ _ _, below_step HBw.out HB3.out⟩
      · have c5 : decide (x < 0) = false := decide_eq_false hx0; obtain ⟨hpc, hpf⟩ := Kd.R_celln (0 : Int) HO3.out.1 (j : Int) p1 p2; rw [Int.toNat_natCast] at hpc hpf
        go_upto_region 12 with (fail)
        generalize hwS : World.setCell w3 _ _ = wS
        have HOS : Aside0 (OwnI wS w2.heap.size (.slice (some ⟨w2.heap.size, 0, none⟩) ages.length ages.length) (minus (j + 1) ages.length) ∧ OwnI wS w2.heap.size (.slice Ad due.length cd) due ∧ OwnI wS w2.heap.size (.slice Al last.length cl) last) := ⟨by
          have hg : w3.grownBy wS (some w2.heap.size) := by rw [← hwS]; exact grown_setP w3 ⟨w2.heap.size, j, none⟩ _
          refine ⟨?_, HO3.out.2.1.keep hg HA.out.2.1, HO3.out.2.2.keep hg HA.out.2.2⟩; rw [← hwS, ← minus_set (by have := HJ.out; omega)]; have := Kd.R_putn HO3.out.1 (j : Int) (-1)
          rwa [Int.toNat_natCast] at this⟩
        have HBS : Aside0 (Below w2.heap.size w2 wS) := ⟨by rw [← hwS]; exact (below_step HW.out HB3.out).setCell (Nat.le_refl _) _⟩; have HSZ : Aside0 (w2.heap.size ≤ wS.heap.size) := ⟨HBS.out.size⟩; have HAS := HA
        have HDN : Aside0 (dueF L ages untl (j + 1) = some (stepDue x a untl j (due, last))) := ⟨by
          show (dueF L ages untl j).bind _ = _
          rw [HD.out]
          show (if L (j : Int) < 0 then none else some (stepDue (L (j : Int)) (rd ages (j : Int)) untl j (due, last))) = _
          rw [HXE.out, HAE.out, if_neg (by omega)]⟩
        clear hwS hpc hpf HO3 HO HA c5; have hxx : 0 ≤ x ∧ x ≤ 200 := by omega
        have hw1 : wrap64 (x - a) = x - a := IntWalk.wrap64_in _ (by omega); clear hxr hx0
        by_cases hc1 : x < 200
        · by_cases hc2 : x - a < untl
          · have c6 : decide (x < 200) = true := decide_eq_true hc1; have c7 : decide (x - a < untl) = true := decide_eq_true hc2; have HST : Aside0 (stepDue x a untl j (due, last) = (due ++ [(j : Int)], last ++ [x - a])) := ⟨by unfold stepDue; rw [if_pos ⟨hc1, hc2⟩]⟩; clear hc1 hc2
            go_wp2_with (first | ((with_reducible refine gate_builtin (b := .append) (xs := #[.tmp 71, .tmp 73]) rfl ?_); at_builtin; (refine Kd.R_append (Kd.int .i64) (w0 := wS) w2.heap.size rfl (.tmp 71) (.tmp 73) 22 3 (.int .i64 0) 8 rfl Tryz.underlying22 info3 rfl (by decide) (by omega) (.slice Ad due.length cd) due (j : Int) [.int .i64 (j : Int)] (fun _ => True) (fun _ => False) rfl rfl ?aP (fun _ hk => hk.elim) ?aF ?aO ?aB ?aS ?aL ?_); (case aP => exact rfl); (case aB => exact Below.refl _ _); (case aF => exact (fun _ _ => trivial)); (case aO => exact HOS.out.2.1); (case aS => exact HSZ.out); (case aL => have hLN := HLN.out; have := HM.out; have := HJ.out; omega); intro vA wA ho hbA hgA hatA) | ((with_reducible refine gate_builtin (b := .append) (xs := #[.tmp 75, .tmp 79]) rfl ?_); at_builtin; (refine Kd.R_append (Kd.int .i64) (w0 := wA) w2.heap.size rfl (.tmp 75) (.tmp 79) 22 3 (.int .i64 0) 8 rfl Tryz.underlying22 info3 rfl (by decide) (by omega) (.slice Al last.length cl) last (x - a) [.int .i64 (x - a)] (fun _ => True) (fun _ => False) rfl rfl ?bP (fun _ hk => hk.elim) ?bF ?bO ?bB ?bS ?bL ?_); (case bP => exact rfl); (case bB => exact Below.refl _ _); (case bF => exact (fun _ _ => trivial)); (case bO => exact HOS.out.2.2.keep hgA HAS.out.1.symm); (case bS => exact Nat.le_trans HSZ.out hgA.size); (case bL => have hLN := HLN.out; have := HM.out; have := HJ.out; omega); intro vB wB hoB hbB hgB hatB))
            go_roundg k2
            case measure => omega
            case rel => exact ⟨j + 1, due ++ [(j : Int)], last ++ [x - a], (by rw [IntWalk.wrap64_in _ (by have := HM.out; have := HJ.out; omega), Int.natCast_add, Int.natCast_one]), ⟨by have := HJ.out; omega⟩, ⟨by rw [HDN.out, HST.out]⟩, ⟨(HOS.out.1.keep hgA HAS.out.2.1.symm).keep hgB HAS.out.2.2.symm, OwnI.keep ho hgB (HAS.out.1.symm.grown HOS.out.2.2 hatA).symm, hoB⟩, ⟨(HAS.out.1.symm.grown HOS.out.2.2 hatA).symm.grown ho hatB, (HAS.out.2.1.symm.grown HOS.out.1 hatA).symm, (HAS.out.2.2.symm.grown (HOS.out.1.keep hgA HAS.out.2.1.symm) hatB).symm⟩, ⟨(HBS.out.trans hbA).trans hbB⟩⟩
          · have c6 : decide (x < 200) = true := decide_eq_true hc1; have c7 : decide (x - a < untl) = false := decide_eq_false hc2; have HST : Aside0 (stepDue x a untl j (due, last) = (due, last)) := ⟨by unfold stepDue; rw [if_neg (fun h => hc2 h.2)]⟩; clear hc1 hc2; go_wp2
            go_roundg k2
            case measure => omega
            case rel => exact ⟨j + 1, due, last, (by rw [IntWalk.wrap64_in _ (by have := HM.out; have := HJ.out; omega), Int.natCast_add, Int.natCast_one]), ⟨by have := HJ.out; omega⟩, ⟨by rw [HDN.out, HST.out]⟩, HOS, HAS, HBS⟩
        · have c6 : decide (x < 200) = false := decide_eq_false hc1; have HST : Aside0 (stepDue x a untl j (due, last) = (due, last)) := ⟨by unfold stepDue; rw [if_neg (fun h => hc1 h.1)]⟩; clear hc1; go_wp2
          go_roundg k2
          case measure => omega
          case rel => exact ⟨j + 1, due, last, (by rw [IntWalk.wrap64_in _ (by have := HM.out; have := HJ.out; omega), Int.natCast_add, Int.natCast_one]), ⟨by have := HJ.out; omega⟩, ⟨by rw [HDN.out, HST.out]⟩, HOS, HAS, HBS⟩
def channel_Plan.f (sp : List Int) (st : List S32) (ages : List Int) (need untl : Int) : Option (List Int × Int) :=
  if sp.length ≤ 9223372036854775807 ∧ st.length ≤ 9223372036854775807 ∧ ages.length ≤ 9223372036854775807 then some (planF sp st ages need untl) else none
theorem channel_Plan.calls (A0_0 : Option Addr) (c0_0 : Nat) (l0_0 : List Int) (A0_1 : Option Addr) (c0_1 : Nat) (l0_1 : List S32) (A1 : Option Addr) (c1 : Nat) (l1 : List Int) (a2 a3 : Int) (r1 : List Int) (r2 : Int) (w : World) (hr0_0 : Kd.C (Kd.int .i64) w A0_0 l0_0.length l0_0) (hc0_0 : l0_0.length ≤ c0_0) (hr0_1 : Kd.C k32 w A0_1 l0_1.length l0_1) (hc0_1 : l0_1.length ≤ c0_1) (hr1 : Kd.C (Kd.int .i64) w A1 l1.length l1) (hc1 : l1.length ≤ c1) (h : channel_Plan.f l0_0 l0_1 l1 a2 a3 = some (r1, r2)) :
    Calls Tryz.prog 32 #[.agg #[.slice A0_0 l0_0.length c0_0, .slice A0_1 l0_1.length c0_1], .slice A1 l1.length c1, .int .i64 a2, .int .i64 a3] w fun e w' => ∃ v0_ : Value, e = .returned (.tuple #[v0_, .int .i64 r2]) ∧ Kd.R (Kd.int .i64) 3 w' w.heap.size (fun _ => True) v0_ r1 ∧ Below w.heap.size w w' := by
  unfold channel_Plan.f at h
  by_cases hl : l0_0.length ≤ 9223372036854775807 ∧ l0_1.length ≤ 9223372036854775807 ∧ l1.length ≤ 9223372036854775807
  case neg => rw [if_neg hl] at h; cases h
  rw [if_pos hl] at h; have h := Option.some.inj h
  cases hb : planB l0_0 l0_1 l1 a2 a3 with
  | true =>
    have := plan_good l0_0 l0_1 A0_0 A0_1 A1 c0_0 c0_1 c1 l1 a2 a3 w hr0_0 hc0_0 hr0_1 hc0_1 hr1 hc1 hb; rw [h] at this; exact this
  | false =>
    have hpf : planF l0_0 l0_1 l1 a2 a3 = ([], 2) := by unfold planF; rw [if_neg (by rw [hb]; decide)]
    rw [hpf] at h; obtain ⟨rfl, rfl⟩ := Prod.mk.inj h; refine (plan_bad l0_0 l0_1 A0_0 A0_1 A1 c0_0 c0_1 c1 l1 a2 a3 w hr0_0 hc0_0 hr0_1 hc0_1 hr1 hc1 hl.1 hl.2.1 hl.2.2 hb).mono ?_; rintro e w' ⟨rfl, hw⟩; exact ⟨_, rfl, Kd.R_nil _ _ _ _ _, hw⟩
end Go.Proofs.YtdmdahafiiggiaaGreatDoor.K
end
section
namespace Go.Proofs.YtdmdahafiiggiaaGreatDoor.K
open Go.RowKit Go.Shelf Go.Proofs.YtdmdahafiiggiaaGreatDoorW.PrintWords Go.Proofs.YtdmdahafiiggiaaGreatDoorW.PrintLast Go.Proofs.YtdmdahafiiggiaaGreatDoorW.PrintMore
attribute [local go_sem] Oper.semAt_some
theorem RoundIn.any_n {m m' : Nat} {P : Program} {l : Nat} {f : FuncId} {tmps : Array Value} {assign body : Code} {w : World} {R : Ending → World → Prop} (h : RoundIn Fence.wide m P l f tmps assign body w R) : RoundIn Fence.wide m' P l f tmps assign body w R := ⟨h.1, fun c cs _ => h.2 c cs (room_wide _)⟩
def tails (c : Nat) : Nat → List (List Int)
  | 0 => [[]]
  | m + 1 => (List.range c).flatMap fun (d : Nat) => (tails c m).map fun r => (d : Int) :: r
structure FW (s0 s1 B s c l : Nat) (now : List Int) (W : World) : Prop where
  seg : W.heap[s0]? = some (.cells #[.int .i64 (s : Int)] 3 (0, 0))
  cls : W.heap[s1]? = some (.cells #[.int .i64 (c : Int)] 3 (0, 0))
  yb : W.heap[B]? = some (.cells #[.func (.yield l) #[] #[]] 179 (0, 0))
  row : OwnI W B (.slice (some ⟨B + 1, 0, none⟩) s s) now
  nb : W.heap[B + 2]? = some (.cells #[.slice (some ⟨B + 1, 0, none⟩) s s] 22 (0, 0))
  fb : W.heap[B + 3]? = some (.cells #[.func (.func 140) #[] #[.pointer (some ⟨s0, 0, none⟩), .pointer (some ⟨B, 0, none⟩), .pointer (some ⟨B + 2, 0, none⟩), .pointer (some ⟨s1, 0, none⟩), .pointer (some ⟨B + 3, 0, none⟩)]] 28 (0, 0))
  lt : s0 < B ∧ s1 < B
theorem FW.kb {s0 s1 B s c l : Nat} {now : List Int} {W W1 : World} {M : Nat → Prop} (h : FW s0 s1 B s c l now W) (hk : KB M W W1) (hM : ∀ k, M k → k < B ∧ k ≠ s0 ∧ k ≠ s1) : FW s0 s1 B s c l now W1 where
  seg := hk.at h.seg fun e => (hM _ e).2.1 rfl
  cls := hk.at h.cls fun e => (hM _ e).2.2 rfl
  yb := hk.at h.yb fun e => by have := (hM _ e).1; omega
  row := by
    have hlt := (OwnI.blk h.row (k := B + 1) rfl).2; exact Kd.R_of_own (own_move (Kd.own_of_R h.row) (fun k e => by have e2 : k = B + 1 := (Option.some.inj e).symm; rw [e2]; exact hk.block _ hlt (fun e => by have := (hM _ e).1; omega))) (fun _ _ => trivial)
  nb := hk.at h.nb fun e => by have := (hM _ e).1; omega
  fb := hk.at h.fb fun e => by have := (hM _ e).1; omega
  lt := h.lt
theorem FW.put {s0 s1 B s c l : Nat} {now : List Int} {W : World} (h : FW s0 s1 B s c l now W) (i x : Int) : FW s0 s1 B s c l (now.set i.toNat x) (W.setCell ⟨B + 1, i.toNat, none⟩ (.int .i64 x)) := by
  have hg := grown_setP W ⟨B + 1, i.toNat, none⟩ (.int .i64 x); have hlt := h.lt
  exact {
    seg := blk_grown h.seg hg (by intro e; have e2 : s0 = B + 1 := Option.some.inj e; omega)
    cls := blk_grown h.cls hg (by intro e; have e2 : s1 = B + 1 := Option.some.inj e; omega)
    yb := blk_grown h.yb hg (by intro e; have e2 : B = B + 1 := Option.some.inj e; omega)
    row := Kd.R_putn h.row i x
    nb := blk_grown h.nb hg (by intro e; have e2 : B + 2 = B + 1 := Option.some.inj e; omega)
    fb := blk_grown h.fb hg (by intro e; have e2 : B + 3 = B + 1 := Option.some.inj e; omega)
    lt := h.lt }
theorem tails_map (c m : Nat) (p : List Int) : (tails c (m + 1)).map (p ++ ·) = (List.range c).flatMap fun (d : Nat) => (tails c m).map fun r => p ++ (d : Int) :: r := by
  simp [tails, List.map_flatMap, Function.comp_def]
theorem tails_step (c m k : Nat) (p : List Int) (pre : List (List Int)) : (pre ++ (List.range k).flatMap fun (d : Nat) => (tails c m).map fun r => p ++ (d : Int) :: r) ++ (tails c m).map ((p ++ [(k : Int)]) ++ ·) = pre ++ (List.range (k + 1)).flatMap fun (d : Nat) => (tails c m).map fun r => p ++ (d : Int) :: r := by
  rw [List.range_succ, List.flatMap_append, List.append_assoc]; simp
theorem tails_rest (c m k : Nat) (h : k < c) (p : List Int) (pre : List (List Int)) (xs : List (List Int)) (hx : ∃ rest, xs = pre ++ (tails c (m + 1)).map (p ++ ·) ++ rest) :
    ∃ rest, xs = (pre ++ (List.range k).flatMap fun (d : Nat) => (tails c m).map fun r => p ++ (d : Int) :: r) ++ (tails c m).map ((p ++ [(k : Int)]) ++ ·) ++ rest := by
  obtain ⟨rest, hx⟩ := hx; rw [tails_step, hx, tails_map]; obtain ⟨d, rfl⟩ : ∃ d, c = k + 1 + d := ⟨c - (k + 1), by omega⟩; refine ⟨((List.range' (k + 1) d).flatMap fun (e : Nat) => (tails (k + 1 + d) m).map fun r => p ++ (e : Int) :: r) ++ rest, ?_⟩; rw [show List.range (k + 1 + d) = List.range (k + 1) ++ List.range' (k + 1) d by rw [List.range_eq_range', List.range_eq_range', ← List.range'_append]; simp, List.flatMap_append]; simp only [List.append_assoc]
theorem take_set {l p : List Int} {i : Nat} {x : Int} (h : l.take i = p) (hi : i < l.length) : (l.set i x).take (i + 1) = p ++ [x] := by
  rw [List.take_add_one, List.take_set_of_le (Nat.le_refl i), h]; simp [hi]
set_option maxRecDepth 100000 in
set_option maxHeartbeats 2000000 in
theorem fill_in (s0 s1 B s c l : Nat) (hs : s ≤ 1000) (hcl : c ≤ 1000) (M : Nat → Prop) (hM : ∀ k, M k → k < B ∧ k ≠ s0 ∧ k ≠ s1) (J : List (List Int) → World → Prop) (xs : List (List Int))
    (hJ : ∀ pre A A', J pre A → B ≤ A.heap.size → KB (fun k => B ≤ k ∧ k < B + 4) A A' → J pre A')
    (hY : ∀ (n : Nat) pre x v W1, J pre W1 → B + 4 ≤ W1.heap.size → OwnI W1 (B + 4) v x → (∃ rest, xs = pre ++ x :: rest) →
      YieldAt Fence.wide n Tryz.prog l #[v] W1 fun e W' => e = .returned (.bool true) ∧ J (pre ++ [x]) W' ∧ KB M W1 W') :
    ∀ (m n i : Nat) (p : List Int) (pre : List (List Int)) (now : List Int) (W : World), i + m = s → p.length = i → now.length = s → now.take i = p → FW s0 s1 B s c l now W → B + 4 ≤ W.heap.size → J pre W → (∃ rest, xs = pre ++ (tails c m).map (p ++ ·) ++ rest) →
      CallsIn Fence.wide n Tryz.prog 140 #[.int .i64 (i : Int), .pointer (some ⟨s0, 0, none⟩), .pointer (some ⟨B, 0, none⟩), .pointer (some ⟨B + 2, 0, none⟩), .pointer (some ⟨s1, 0, none⟩), .pointer (some ⟨B + 3, 0, none⟩)] W fun e W' => e = .returned (.bool true) ∧
        (∃ now', now'.length = s ∧ now'.take i = p ∧ FW s0 s1 B s c l now' W') ∧ J (pre ++ (tails c m).map (p ++ ·)) W' ∧ KB (fun k => M k ∨ (B ≤ k ∧ k < B + 4)) W W' := by
  intro m
  induction m with
  | zero =>
    intro n i p pre now W him hp hn ht hF hB hj hrest; obtain rfl : i = s := by omega
    have hnow : now = p := by rw [← ht, List.take_of_length_le (by omega)]
    subst hnow; have y1 : W.cell? ⟨s0, 0, none⟩ = some (.int .i64 (i : Int)) := (blk_cell hF.seg 0).trans rfl; have y2 : W.cell? ⟨B, 0, none⟩ = some (.func (.yield l) #[] #[]) := (blk_cell hF.yb 0).trans rfl; have y3 : W.cell? ⟨B + 2, 0, none⟩ = some (.slice (some ⟨B + 1, 0, none⟩) i i) := (blk_cell hF.nb 0).trans rfl
    have hCl : Aside0 (∀ W', Below W.heap.size W W' → Calls Tryz.prog 72 #[.slice (some ⟨B + 1, 0, none⟩) i i] W' fun e w' => ∃ v, e = .returned v ∧ Aside0 (Kd.R (Kd.int .i64) 3 w' W'.heap.size (fun _ => True) v now) ∧ Below W'.heap.size W' w') := ⟨fun W' hb => by
      have hC := (Kd.R_reads' (Kd.R_below hF.row hb)).2.2; have := clone_any (some ⟨B + 1, 0, none⟩) i now W' hC (by omega)
      rwa [hp] at this⟩
    refine callsIn_of_wp Tryz.func140 rfl trivial ?_ rfl; simp only [Tryz.ntmps140, List.size_toArray, List.length_cons, List.length_nil, Nat.reduceAdd, Nat.reduceSub, Array.replicate_succ, Array.replicate_zero, List.push_toArray, List.append_toArray, List.nil_append, List.cons_append]
    gi_wp2
    have HF := Aside0.mk hF; have HJW : Aside0 (J pre W.drew) := ⟨hJ _ _ _ hj (by omega) (KB.of_below (below_drew1 (Below.refl _ _)))⟩; have HB := Aside0.mk hB; have HR := Aside0.mk hrest; clear hF hj hB hrest; have hmix : Tryz.prog.follows .mixedOrders = true := by kernel_rfl
    gi_region_with_o (first | ((refine ⟨trivial, fun h => absurd h (by decide), ?_⟩); gi_at_call 72; refine (callsIn_wide.2 (hCl.out _ (below_drew1 (Below.refl _ _)))).mono ?_; rintro e w1 ⟨v, rfl, hv, hb⟩; have y2 : w1.cell? ⟨B, 0, none⟩ = some (.func (.yield l) #[] #[]) := (blk_cell (blk_below HF.out.yb (below_step (below_drew1 (Below.refl _ _)) hb)) 0).trans rfl; obtain ⟨fn_, tmps_, assign_, body_, hy_, hR_⟩ := hY n pre now v w1 (hJ _ _ _ HJW.out (Nat.le_trans (by omega) HB.out) (KB.of_below hb)) (Nat.le_trans HB.out hb.size) (OwnI.weak hv.out HB.out) (by obtain ⟨r, e⟩ := HR.out; exact ⟨r, by simpa [tails] using e⟩)) | ((refine ⟨fun h => absurd h (by decide), ?_⟩); refine (RoundIn.any_n hR_).mono ?_; rintro e w2 ⟨rfl, hJ2, hk2⟩))
    all_goals
      gi_wp2
      go_ret; have hkA : KB M W w1 := (KB.of_below (below_drew1 (Below.refl _ _))).trans (KB.of_below hb); exact ⟨rfl, ⟨now, hn, ht, HF.out.kb (hkA.trans hk2) hM⟩, by simpa [tails] using hJ2, (hkA.trans hk2).mono fun k _ h => .inl h⟩
  | succ m ih =>
    intro n i p pre now W him hp hn ht hF hB hj hrest; have y1 : W.cell? ⟨s0, 0, none⟩ = some (.int .i64 (s : Int)) := (blk_cell hF.seg 0).trans rfl; have y4 : W.cell? ⟨s1, 0, none⟩ = some (.int .i64 (c : Int)) := (blk_cell hF.cls 0).trans rfl; have HIS : Aside0 (i < s) := ⟨by omega⟩; have he1 : ((i : Int) == (s : Int)) = false := by rw [beq_eq_false_iff_ne]; omega
    have he2 : (i == s) = false := by rw [beq_eq_false_iff_ne]; omega
    have he3 : ((i : Int) = (s : Int)) = False := eq_false (by omega); have he4 : ¬ (i = s) := by omega
    have H0 := Aside0.mk (And.intro hF (And.intro hB hj)); have HR := Aside0.mk hrest; have HN := Aside0.mk (And.intro hn ht); have HP := Aside0.mk (And.intro hp him); have IH := Aside0.mk ih; clear hF hB hj hrest hn ht hp him ih; refine callsIn_of_wp Tryz.func140 rfl trivial ?_ rfl; simp only [Tryz.ntmps140, List.size_toArray, List.length_cons, List.length_nil, Nat.reduceAdd, Nat.reduceSub, Array.replicate_succ, Array.replicate_zero, List.push_toArray, List.append_toArray, List.nil_append, List.cons_append]
    gi_wp2
    clear y1 y4 he1 he2 he3 he4
    gi_loopw [17] (fun v17 wr => ∃ (k : Nat) (now1 : List Int), v17 = .int .i64 (k : Int) ∧ Aside0 (k ≤ c ∧ now1.length = s ∧ now1.take i = p) ∧ Aside0 (FW s0 s1 B s c l now1 wr) ∧ Aside0 (J (pre ++ (List.range k).flatMap fun (d : Nat) => (tails c m).map fun r => p ++ (d : Int) :: r) wr) ∧ Aside0 (KB (fun k => M k ∨ (B ≤ k ∧ k < B + 4)) W wr))
      (fun v _ => c - (intOf v).toNat)
    case atStart => exact ⟨0, now, rfl, ⟨Nat.zero_le _, HN.out.1, HN.out.2⟩, ⟨H0.out.1⟩, ⟨by simpa using H0.out.2.2⟩, ⟨KB.refl _ _⟩⟩
    case round =>
      obtain ⟨k, now1, rfl, HK, HF, HJ, HKB⟩ := hrel
      by_cases hk : k < c
      · have c3 : decide ((k : Int) < (c : Int)) = true := decide_eq_true (by omega); have z1 : wr.cell? ⟨B + 2, 0, none⟩ = some (.slice (some ⟨B + 1, 0, none⟩) s s) := (blk_cell HF.out.nb 0).trans rfl; have HFP := Aside0.mk (HF.out.put (i : Int) (k : Int)); rw [Int.toNat_natCast] at HFP; have z2 : (wr.setCell ⟨B + 1, i, none⟩ (.int .i64 (k : Int))).cell? ⟨B + 3, 0, none⟩ = some (.func (.func 140) #[] #[.pointer (some ⟨s0, 0, none⟩), .pointer (some ⟨B, 0, none⟩), .pointer (some ⟨B + 2, 0, none⟩), .pointer (some ⟨s1, 0, none⟩), .pointer (some ⟨B + 3, 0, none⟩)]) := (blk_cell HFP.out.fb 0).trans rfl; have p1 : (0 : Int) ≤ (i : Int) := by omega
        have p2 : (i : Int) < (s : Int) := by have := HIS.out; omega
        obtain ⟨hpc, hpf⟩ := Kd.R_celln (0 : Int) HF.out.row (i : Int) p1 p2; rw [Int.toNat_natCast] at hpc hpf; have hKS : KB (fun k => M k ∨ (B ≤ k ∧ k < B + 4)) wr (wr.setCell ⟨B + 1, i, none⟩ (.int .i64 (k : Int))) := KB.setCell _ _ _ (.inr ⟨by show B ≤ B + 1; omega, by show B + 1 < B + 4; omega⟩); have hKO : KB (fun k => B ≤ k ∧ k < B + 4) wr (wr.setCell ⟨B + 1, i, none⟩ (.int .i64 (k : Int))) := KB.setCell _ _ _ ⟨by show B ≤ B + 1; omega, by show B + 1 < B + 4; omega⟩; have hBr : B + 4 ≤ wr.heap.size := Nat.le_trans H0.out.2.1 HKB.out.size; have HIH := Aside0.mk (fun n' => IH.out n' (i + 1) (p ++ [(k : Int)]) _ (now1.set i (k : Int)) _ (by have := HP.out.2; omega) (by simp [HP.out.1]) (by simp [HK.out.2.1]) (take_set HK.out.2.2 (by rw [HK.out.2.1]; exact HIS.out)) HFP.out (Nat.le_trans hBr hKS.size) (hJ _ _ _ HJ.out (by omega) hKO) (tails_rest c m k hk p pre xs HR.out)); have HKS := Aside0.mk hKS; clear hKS hKO hBr; have q1 := eq_true p1; have q2 := eq_true p2; have HW1 : Aside0 (wrap64 ((i : Int) + 1) = ((i + 1 : Nat) : Int)) := ⟨by rw [IntWalk.wrap64_in _ (by have := HIS.out; omega), Int.natCast_add, Int.natCast_one]⟩; have hw1 := HW1.out
        gi_wp2_with ((refine ⟨trivial, fun h => absurd h (by decide), ?_⟩); gi_at_call 140; refine (HIH.out _).mono ?_; rintro e w2 ⟨rfl, ⟨now2, hn2, ht2, hF2⟩, hJ2, hK2⟩)
        clear hw1 q1 q2
        go_roundw
        case rel => exact ⟨k + 1, now2, (by rw [Int.natCast_add, Int.natCast_one]), ⟨by omega, hn2, by
          have h : (now2.take (i + 1)).take i = (p ++ [(k : Int)]).take i := congrArg _ ht2; rw [List.take_take, Nat.min_eq_left (Nat.le_succ i)] at h; rw [h, ← HP.out.1]
          simp⟩, ⟨hF2⟩, ⟨by rw [tails_step] at hJ2; exact hJ2⟩, ⟨HKB.out.trans (HKS.out.trans hK2)⟩⟩
        case measure => simp [intOf]; omega
      · obtain rfl : k = c := by have := HK.out.1; omega
        have c3 : decide ((k : Int) < (k : Int)) = false := decide_eq_false (by omega)
        gi_wp2
        go_ret; exact ⟨rfl, ⟨now1, HK.out.2.1, HK.out.2.2, HF.out⟩, by rw [tails_map]; exact HJ.out, HKB.out⟩
def AtI (B : Nat) (W : World) (x : List Int) (v : Array Value) : Prop := ∃ sl, v = #[sl] ∧ OwnI W B sl x
theorem store_func {P : Program} {w : World} {a : Addr} {m : Mode} (f : Fn) (x y : Array Value) : (store a (.func f x y) m).run P w = stored P w a (.func f x y) m := run_store P w a _ m rfl
attribute [local go_sem] store_func
set_option maxRecDepth 100000 in
set_option maxHeartbeats 2000000 in
theorem choices1_seq (n s0 s1 s c : Nat) (hs : s ≤ 1000) (hcl : c ≤ 1000) (w : World) (hseg : w.heap[s0]? = some (.cells #[.int .i64 (s : Int)] 3 (0, 0))) (hcls : w.heap[s1]? = some (.cells #[.int .i64 (c : Int)] 3 (0, 0))) :
    SeqM Fence.wide n Tryz.prog 139 #[.pointer (some ⟨s0, 0, none⟩), .pointer (some ⟨s1, 0, none⟩)] 4 (fun k => k = s0 ∨ k = s1) AtI (tails c s) w := by
  intro l M J W hkw hC0 hM hJ hY h0; have hC : ∀ k, (k = s0 ∨ k = s1) → W.heap[k]? = w.heap[k]? := fun k h => hkw.block k (hC0 k h) (fun hn => hn h); have HS : Aside0 (W.heap[s0]? = some (.cells #[.int .i64 (s : Int)] 3 (0, 0))) := ⟨(hC s0 (.inl rfl)).trans hseg⟩; have HC : Aside0 (W.heap[s1]? = some (.cells #[.int .i64 (c : Int)] 3 (0, 0))) := ⟨(hC s1 (.inr rfl)).trans hcls⟩; have hmk := print_make (P := Tryz.prog) 22 3 .i64 8 Tryz.underlying22 info3 (by omega) s (by omega); have hmf : ∀ (fn : Fn) (first cap : Array Value) (w : World), (Instr.makeFunc fn first cap).run Tryz.prog w = .ok (.func fn first cap) w := fun _ _ _ _ => rfl; have y1 : W.cell? ⟨s0, 0, none⟩ = some (.int .i64 (s : Int)) := (blk_cell HS.out 0).trans rfl; have y2 : (W.alloc (.cells #[.func (.yield l) #[] #[]] 179)).cell? ⟨s0, 0, none⟩ = some (.int .i64 (s : Int)) := (blk_cell (blk_alloc HS.out _) 0).trans rfl; have z3 : ((((W.alloc (.cells #[.func (.yield l) #[] #[]] 179)).alloc (.cells (madeCells #[Value.int .i64 0] s) 3)).alloc (.cells #[.slice (some ⟨W.heap.size + 1, 0, none⟩) s s] 22)).alloc (.cells #[.nilFunc] 28)).cell? ⟨W.heap.size + 1 + 1 + 1, 0, none⟩ = some .nilFunc := by simp [go_sem]
  have z4 : ((((W.alloc (.cells #[.func (.yield l) #[] #[]] 179)).alloc (.cells (madeCells #[Value.int .i64 0] s) 3)).alloc (.cells #[.slice (some ⟨W.heap.size + 1, 0, none⟩) s s] 22)).alloc (.cells #[.nilFunc] 28)).frozen? ⟨W.heap.size + 1 + 1 + 1, 0, none⟩ = false := by simp [go_sem]
  have z5 : (((((W.alloc (.cells #[.func (.yield l) #[] #[]] 179)).alloc (.cells (madeCells #[Value.int .i64 0] s) 3)).alloc (.cells #[.slice (some ⟨W.heap.size + 1, 0, none⟩) s s] 22)).alloc (.cells #[.nilFunc] 28)).setCell ⟨W.heap.size + 1 + 1 + 1, 0, none⟩ (.func (.func 140) #[] #[.pointer (some ⟨s0, 0, none⟩), .pointer (some ⟨W.heap.size, 0, none⟩), .pointer (some ⟨W.heap.size + 1 + 1, 0, none⟩), .pointer (some ⟨s1, 0, none⟩), .pointer (some ⟨W.heap.size + 1 + 1 + 1, 0, none⟩)])).cell? ⟨W.heap.size + 1 + 1 + 1, 0, none⟩ = some (.func (.func 140) #[] #[.pointer (some ⟨s0, 0, none⟩), .pointer (some ⟨W.heap.size, 0, none⟩), .pointer (some ⟨W.heap.size + 1 + 1, 0, none⟩), .pointer (some ⟨s1, 0, none⟩), .pointer (some ⟨W.heap.size + 1 + 1 + 1, 0, none⟩)]) := World.cell?_setCell_same' _ _ _ (by rw [z3]; rfl); have H0 := Aside0.mk h0; clear h0; refine callsIn_of_wp Tryz.func139 rfl trivial ?_ rfl; simp only [Tryz.ntmps139, List.size_toArray, List.length_cons, List.length_nil, Nat.reduceAdd, Nat.reduceSub, Array.replicate_succ, Array.replicate_zero, List.push_toArray, List.append_toArray, List.nil_append, List.cons_append]
  gi_wp2
  clear z3 z4 z5 y1 y2 hmk; refine ⟨trivial, fun h => absurd h (by decide), ?_⟩; have e2 : (W.alloc (.cells #[.func (.yield l) #[] #[]] 179)).heap.size = W.heap.size + 1 := World.size_alloc _ _; generalize hW5 : World.alloc (World.alloc (World.alloc (World.alloc W _) _) _) _ = W5
  have HFW : FW s0 s1 W.heap.size s c l (List.replicate s 0) W5 := by
    rw [← hW5]; have hlt0 := blk_lt HS.out; have hlt1 := blk_lt HC.out; have hr := own_made (W.alloc (.cells #[.func (.yield l) #[] #[]] 179)) W.heap.size 3 .i64 s (by simp) (by omega); rw [World.size_alloc] at hr
    exact {
      seg := blk_alloc (blk_alloc (blk_alloc (blk_alloc HS.out _) _) _) _
      cls := blk_alloc (blk_alloc (blk_alloc (blk_alloc HC.out _) _) _) _
      yb := blk_alloc (blk_alloc (blk_alloc (blk_new _ _) _) _) _
      row := Kd.R_of_own (by rw [List.length_replicate]; exact own_alloc (own_alloc hr _) _) (fun _ _ => trivial)
      nb := by
        have := blk_new ((W.alloc (.cells #[.func (.yield l) #[] #[]] 179)).alloc (.cells (madeCells #[Value.int .i64 0] s) 3)) (.cells #[.slice (some ⟨W.heap.size + 1, 0, none⟩) s s] 22); rw [World.size_alloc, World.size_alloc] at this; exact blk_alloc this _
      fb := by
        have h := fun o => blk_new (((W.alloc (.cells #[.func (.yield l) #[] #[]] 179)).alloc (.cells (madeCells #[Value.int .i64 0] s) 3)).alloc (.cells #[.slice (some ⟨W.heap.size + 1, 0, none⟩) s s] 22)) o; simp only [World.size_alloc] at h; exact h _
      lt := ⟨hlt0, hlt1⟩ }
  have hk5 : ∀ N : Nat → Prop, KB N W W5 := fun N => by rw [← hW5]; exact ((KB.alloc _ _).trans (KB.alloc _ _)).trans ((KB.alloc _ _).trans (KB.alloc _ _))
  have hs5 : W5.heap.size = W.heap.size + 4 := by rw [← hW5]; simp
  have hMM : ∀ k, M k → k < W.heap.size ∧ k ≠ s0 ∧ k ≠ s1 := fun k hk => ⟨(hM k hk).1, fun e => (hM k hk).2 (.inl e), fun e => (hM k hk).2 (.inr e)⟩
  refine (fill_in s0 s1 W.heap.size s c l hs hcl M hMM J (tails c s) hJ (fun n' pre x v W1 hj hsz ho hr => by
    obtain ⟨fn, tmps, assign, body, hy, hR⟩ := hY pre x #[v] W1 hj hsz ⟨v, rfl, ho⟩ hr
    exact ⟨fn, tmps, assign, body, hy, RoundIn.any_n hR⟩) s (n - 1) 0 [] [] (List.replicate s 0) W5 (by omega) rfl (by simp) (by simp) HFW (by omega) (hJ _ _ _ H0.out (Nat.le_refl _) (hk5 _)) ⟨[], by simp⟩).mono ?_
  rintro e w2 ⟨rfl, _, hJ2, hk2⟩
  gi_wp2
  go_end0
  exact ⟨⟨_, rfl⟩, by simpa using hJ2, ((hk5 _).trans hk2).mono fun k hk h => by
    rcases h with h | h
    · exact h
    · omega⟩
end Go.Proofs.YtdmdahafiiggiaaGreatDoor.K
end
section
namespace Go.Proofs.YtdmdahafiiggiaaGreatDoor.K
open Go.RowKit Go.Proofs.YtdmdahafiiggiaaGreatDoorW.PrintWords Go.Proofs.YtdmdahafiiggiaaGreatDoorW.PrintLast Go.Proofs.YtdmdahafiiggiaaGreatDoorW.PrintMore
attribute [local go_sem] max2_int min2_int max_two min_two max_three min_three max_four min_four
def channel_isHeight.f (a0_0 : Int) (a0_1 : Int) : Option (Bool) := (channel_isSpan.f a0_0 a0_1 0 1000).bind fun t370 => (some t370)
set_option maxHeartbeats 8000000 in
set_option maxRecDepth 100000 in
theorem channel_isHeight.calls (a0_0 : Int) (a0_1 : Int) (r : Bool) (w : World) (h : channel_isHeight.f a0_0 a0_1 = some r) :
  Calls Tryz.prog 111 #[.agg #[.int .i64 a0_0, .int .i64 a0_1]] w fun e w' => e = .returned (.bool r) ∧ Below w.heap.size w w' := by
 have hu30 := Tryz.underlying30; have HB := Aside0.mk (Below.refl w.heap.size w); have H : ((channel_isSpan.f a0_0 a0_1 0 1000).bind fun t370 => (some t370)) = some r := h; clear h; replace H := Option.bind_eq_some_iff.mp H; obtain ⟨t370, A20, H⟩ := H; replace H : (some t370) = some r := H; have A2 := Aside0.mk A20; clear A20; obtain rfl := Option.some.inj H
 go_enter Tryz.func111, Tryz.ntmps111
 go_wp2_with (first | ((with_reducible refine gate_dst (N := 1) rfl ?_); refine bxe 1 #[.int .i64 a0_0, .int .i64 a0_1] 30 ?_; intro gb369 hg w3 hbox hb; have n0_ := Aside0.mk (below_step uB hb); have n1_ := Aside0.mk (hbox); have n2_ := gw hg; have n3_ := gw hg; clear HB; have HB := n0_; have BK369 := n1_; have GW369 := n2_; have GE369 := n3_; clear n0_ n1_ n2_ n3_; clear hb hbox hg; obtain ⟨hcz4_0, hcz4_1⟩ := cz2 BK369.out; obtain ⟨hfz4_0, hfz4_1⟩ := fz2 BK369.out) | ((with_reducible refine gate_callee (f := 80) rfl ?_); refine goesL_ (some 4) rfl rfl Tryz.func80 (by kernel_rfl) rfl #[.agg #[.int .i64 a0_0, .int .i64 a0_1], .int .i64 0, .int .i64 1000] rfl uM ?_; (with_reducible refine (channel_isSpan.calls a0_0 a0_1 0 1000 t370 _ A2.out).mono ?_); rintro e w5 ⟨rfl, hb⟩; refine ⟨_, rfl, ?_⟩; replace BK369 := Aside0.mk (blk_below (uK BK369.out) hb); replace HB := Aside0.mk (below_step uB hb); (try clear hb); (try clear hb2); (try clear hk); (try clear hi)))
 go_ret; exact ⟨uE, uB⟩
end Go.Proofs.YtdmdahafiiggiaaGreatDoor.K
end
section
namespace Go.Proofs.YtdmdahafiiggiaaGreatDoor.K
open Go.RowKit Go.Proofs.YtdmdahafiiggiaaGreatDoorW.PrintWords Go.Proofs.YtdmdahafiiggiaaGreatDoorW.PrintLast Go.Proofs.YtdmdahafiiggiaaGreatDoorW.PrintMore
attribute [local go_sem] max2_int min2_int max_two min_two max_three min_three max_four min_four
def channel_pressures.l0 : Nat → List (S30) → Int → Int → Int → Int → List (S30) → List Int → Option ((List (S30)))
 | 0, _, _, _, _, _, _, _ => none
 | k + 1, x3, x9, x10, x372000, x372001, x372002, x372003 => if x10 < x9 then (if 0 ≤ x10 then (if x10 < (x372002.length : Int) then (if 0 ≤ (wrap64 (x10 + 1)) then (if (wrap64 (x10 + 1)) < (x372002.length : Int) then (if x3.length < 8796093022208 then (channel_pressures.l0 k (x3 ++ [(⟨mx 0 (wrap64 (x372000 - (mn ((rd_T30 x372002 x10).f1) ((rd_T30 x372002 (wrap64 (x10 + 1))).f1)))), mx 0 (wrap64 (x372001 - (mn ((rd_T30 x372002 x10).f0) ((rd_T30 x372002 (wrap64 (x10 + 1))).f0))))⟩ : S30)]) x9 (wrap64 (x10 + 1)) x372000 x372001 x372002 x372003) else (none)) else (none)) else (none)) else (none)) else (none)) else (some x3)
def channel_pressures.f (k : Nat) (a0_0 : Int) (a0_1 : Int) (l0_2 : List (S30)) (l0_3 : List Int) : Option ((List (S30))) := channel_pressures.l0 k ([] : List (S30)) (l0_3.length : Int) 0 a0_0 a0_1 l0_2 l0_3
def channel_pressures.T5 : Bool × List (List Nat × List Nat) := (true, [([], []), ([0], [0]), ([], []), ([1, 2], [1, 2]), ([3], [3]), ([], []), ([5], [5]), ([], []), ([7], [7]), ([6, 8], [6, 8]), ([9], [9]), ([], []), ([], []), ([11, 4, 0, 1, 2, 3, 4, 11, 12], [4, 11]), ([12, 10, 13, 0, 1, 2, 3, 4, 5, 6, 7, 8, 9, 10, 11, 12, 13], [10, 12])])
def channel_pressures.B5 : List Nat := [0, 1, 0, 7, 15, 0, 32, 0, 128, 480, 992, 0, 0, 6175, 16383]
theorem channel_pressures.tab5 : rtab .any (opsOf Tryz.f88 5) = channel_pressures.T5 := by kernel_rfl
theorem channel_pressures.bits5 : waitsOk channel_pressures.T5.2 channel_pressures.B5 = true := by kernel_rfl
set_option maxHeartbeats 8000000 in
set_option maxRecDepth 100000 in
theorem channel_pressures.calls (k : Nat) (a0_0 : Int) (a0_1 : Int) (A0_2 : Option Addr) (c0_2 : Nat) (l0_2 : List (S30)) (A0_3 : Option Addr) (c0_3 : Nat) (l0_3 : List Int) (r : List (S30)) (w : World) (hr0_2 : Kd.C k30 w A0_2 l0_2.length l0_2) (hc0_2 : l0_2.length ≤ c0_2) (hr0_3 : Kd.C (Kd.int .i64) w A0_3 l0_3.length l0_3) (hc0_3 : l0_3.length ≤ c0_3) (h : channel_pressures.f k a0_0 a0_1 l0_2 l0_3 = some r) :
  Calls Tryz.prog 88 #[.agg #[.int .i64 a0_0, .int .i64 a0_1, .slice A0_2 l0_2.length c0_2, .slice A0_3 l0_3.length c0_3]] w fun e w' => ∃ v0_ : Value, e = .returned (v0_) ∧ Kd.R k30 30 w' w.heap.size (fun _ => True) v0_ r ∧ Below w.heap.size w w' := by
 have hu78 := Tryz.underlying78; have hu30 := Tryz.underlying30; have HR0_2 := Aside0.mk hr0_2; have HC0_2 := Aside0.mk hc0_2; clear hr0_2 hc0_2; have HR0_3 := Aside0.mk hr0_3; have HC0_3 := Aside0.mk hc0_3; clear hr0_3 hc0_3; have HB := Aside0.mk (Below.refl w.heap.size w); have H : (channel_pressures.l0 k ([] : List (S30)) (l0_3.length : Int) 0 a0_0 a0_1 l0_2 l0_3) = some r := h; clear h; have H' := Aside0.mk H; clear H
 go_enter Tryz.func88, Tryz.ntmps88
 go_wp2_with (first | ((with_reducible refine gate_dst (N := 1) rfl ?_); refine bxe 1 #[.int .i64 a0_0, .int .i64 a0_1, .slice A0_2 l0_2.length c0_2, .slice A0_3 l0_3.length c0_3] 78 ?_; intro gb371 hg w2 hbox hb; have GW371 := gw hg; have GE371 := gw hg; have BK371 := Aside0.mk (hbox); replace HB := Aside0.mk (below_step uB hb); clear hb hbox hg; obtain ⟨hcz3_0, hcz3_1, hcz3_2, hcz3_3⟩ := cz4 BK371.out))
 go_loopg [3, 10] k (fun kq v3 v10 w' => ∃ (x3_1 : List (S30)) (x10_1 : Int), v10 = .int .i64 x10_1 ∧ Aside0 (channel_pressures.l0 kq x3_1 (l0_3.length : Int) x10_1 a0_0 a0_1 l0_2 l0_3 = some r) ∧ Aside0 (kq ≤ k) ∧ Aside0 (Kd.R k30 30 w' w.heap.size (fun _ => True) v3 x3_1) ∧ Aside0 (w'.heap[gb371]? = some (.cells #[.int .i64 a0_0, .int .i64 a0_1, (.slice A0_2 l0_2.length c0_2), (.slice A0_3 l0_3.length c0_3)] 78 (0, 0))) ∧ Aside0 (Below w.heap.size w w'))
 case atStart => exact ⟨(([] : List (S30))), (0), u0, H', ⟨Nat.le_refl _⟩, ⟨uN⟩, ⟨uK BK371.out⟩, ⟨uB⟩⟩
 case round =>
  clear H'; try clear p2; try clear hcz3_0; try clear hcz3_1; try clear hcz3_2; try clear hcz3_3; try clear hfz3_0; try clear hfz3_1; try clear hfz3_2; try clear hfz3_3
  obtain ⟨x3_1, x10_1, rfl, HA, HK1, HO_3, BK371, HB⟩ := hrel
  cases gk with
  | zero => exact absurd HA.out (by simp [channel_pressures.l0])
  | succ k1 =>
   have H := HA.out; clear HA; simp only [channel_pressures.l0] at H
   by_cases c4 : x10_1 < (l0_3.length : Int)
   ·rw [if_pos c4] at H; replace c4 := decide_eq_true c4; obtain ⟨c5, H⟩ := ifs H; replace c5 := decide_eq_true c5; obtain ⟨c6, H⟩ := ifs H; replace c6 := decide_eq_true c6; obtain ⟨ji7, hji7⟩ : ∃ j_ : Int, (wrap64 (x10_1 + 1)) = j_ := ⟨_, rfl⟩; rw [hji7] at H; have hji7w : (IntKind.i64.wrap (x10_1 + 1)) = ji7 := (i64_w _).trans hji7; obtain ⟨c8, H⟩ := ifs H; replace c8 := decide_eq_true c8; obtain ⟨c9, H⟩ := ifs H; replace c9 := decide_eq_true c9; obtain ⟨ji10, hji10⟩ : ∃ j_ : Int, (mn ((rd_T30 l0_2 x10_1).f1) ((rd_T30 l0_2 (ji7)).f1)) = j_ := ⟨_, rfl⟩; rw [hji10] at H; have hji10_ : (if ((rd_T30 l0_2 (ji7)).f1) < ((rd_T30 l0_2 x10_1).f1) then ((rd_T30 l0_2 (ji7)).f1) else ((rd_T30 l0_2 x10_1).f1)) = ji10 := hji10; obtain ⟨ji11, hji11⟩ : ∃ j_ : Int, (mx 0 (wrap64 (a0_0 - (ji10)))) = j_ := ⟨_, rfl⟩; rw [hji11] at H; have hji11_ : (if 0 < (wrap64 (a0_0 - (ji10))) then (wrap64 (a0_0 - (ji10))) else 0) = ji11 := hji11; obtain ⟨ji12, hji12⟩ : ∃ j_ : Int, (mn ((rd_T30 l0_2 x10_1).f0) ((rd_T30 l0_2 (ji7)).f0)) = j_ := ⟨_, rfl⟩; rw [hji12] at H; have hji12_ : (if ((rd_T30 l0_2 (ji7)).f0) < ((rd_T30 l0_2 x10_1).f0) then ((rd_T30 l0_2 (ji7)).f0) else ((rd_T30 l0_2 x10_1).f0)) = ji12 := hji12; obtain ⟨ji13, hji13⟩ : ∃ j_ : Int, (mx 0 (wrap64 (a0_1 - (ji12)))) = j_ := ⟨_, rfl⟩; rw [hji13] at H; have hji13_ : (if 0 < (wrap64 (a0_1 - (ji12))) then (wrap64 (a0_1 - (ji12))) else 0) = ji13 := hji13; obtain ⟨c14, H⟩ := ifs H; have LMc14 := Aside0.mk c14; clear c14; obtain ⟨y376, hy376⟩ : ∃ y_ : List (S30), y_ = (x3_1 ++ [(⟨ji11, ji13⟩ : S30)]) := ⟨_, rfl⟩; rw [← hy376] at H; have Ny376 := Aside0.mk hy376; clear hy376; have H' := Aside0.mk H; clear H; (try go_wp2); replace HO_3 := Aside0.mk (Kd.R_drew HO_3.out); replace BK371 := Aside0.mk (blk_drew BK371.out); replace HB := Aside0.mk (below_drew1 HB.out); have p372 : 0 ≤ (x10_1 : Int) := of_decide_eq_true (by assumption); have q372 : x10_1 < (l0_2.length : Int) := of_decide_eq_true (by assumption); obtain ⟨ad372, e372, hx372_0, hx372_1⟩ := at_T30 HR0_2.out x10_1 p372 q372; have hw372_1 := hx372_1; have hw372_0 := hx372_0
    cases e372
    replace hx372_0 := hcell HB.out hx372_0; replace hx372_1 := hcell HB.out hx372_1; replace p372 := eq_true p372; replace q372 := eq_true q372; have p373 : 0 ≤ ((ji7) : Int) := of_decide_eq_true (by assumption); have q373 : (ji7) < (l0_2.length : Int) := of_decide_eq_true (by assumption); obtain ⟨ad373, e373, hx373_0, hx373_1⟩ := at_T30 HR0_2.out (ji7) p373 q373; have hw373_1 := hx373_1; have hw373_0 := hx373_0; obtain rfl : ad372 = ad373 := (by injection e373); replace hx373_0 := hcell HB.out hx373_0; replace hx373_1 := hcell HB.out hx373_1; replace p373 := eq_true p373; replace q373 := eq_true q373; refine start_ (n := 15) (S := fun w' => w'.cell? ⟨gb371, 0, none⟩ = some (.int .i64 a0_0) ∧ w'.cell? ⟨gb371, 1, none⟩ = some (.int .i64 a0_1) ∧ w'.cell? ⟨gb371, 2, none⟩ = some (.slice (some ad372) l0_2.length c0_2) ∧ w'.cell? ⟨gb371, 3, none⟩ = some (.slice A0_3 l0_3.length c0_3) ∧ w'.cell? (ad372.add ((x10_1).toNat * 2)) = some (.int .i64 ((rd_T30 l0_2 x10_1).f0)) ∧ w'.cell? ⟨(ad372.add ((x10_1).toNat * 2)).block, (ad372.add ((x10_1).toNat * 2)).off + 1, none⟩ = some (.int .i64 ((rd_T30 l0_2 x10_1).f1)) ∧ w'.cell? (ad372.add (((ji7)).toNat * 2)) = some (.int .i64 ((rd_T30 l0_2 (ji7)).f0)) ∧ w'.cell? ⟨(ad372.add (((ji7)).toNat * 2)).block, (ad372.add (((ji7)).toNat * 2)).off + 1, none⟩ = some (.int .i64 ((rd_T30 l0_2 (ji7)).f1))) (ds := []) (bl 15 0) (by kernel_rfl) rfl rfl ⟨(blk_cell BK371.out 0).trans rfl, (blk_cell BK371.out 1).trans rfl, (blk_cell BK371.out 2).trans rfl, (blk_cell BK371.out 3).trans rfl, (hcell HB.out hw372_0), (hcell HB.out hw372_1), (hcell HB.out hw373_0), (hcell HB.out hw373_1)⟩ (fun hHeld => ?_); refine with_tabW channel_pressures.tab5 channel_pressures.bits5 (fun HT_ HW_ => ?_)
    generalize wr.drew = w15 at HO_3 BK371 HB hx372_0 hx372_1 hx373_0 hx373_1 hHeld ⊢; refine pu 0 13 15 1 ?_; refine pu 2 15 15 5 ?_; refine pu 5 18 15 37 ?_; refine pu 7 20 15 165 ?_; refine pu 8 21 15 421 ?_; refine tk8 1 14 15 423 hHeld ?_; refine pu 3 16 15 431 ?_; refine tk8 4 17 15 447 hHeld ?_; refine tk8 6 19 15 511 hHeld ?_; refine pu 9 22 15 1023 ?_; refine tk8 10 23 15 2047 hHeld ?_; refine join_ (σ := Nat × Nat) 2 (bl 15 8191) (fun s_ => [(5, .pointer (some ⟨s_.1, 0, none⟩)), (6, .pointer (some ⟨s_.2, 0, none⟩))]) (fun s_ w' => (w'.cell? ⟨gb371, 0, none⟩ = some (.int .i64 a0_0) ∧ w'.cell? ⟨gb371, 1, none⟩ = some (.int .i64 a0_1) ∧ w'.cell? ⟨gb371, 2, none⟩ = some (.slice (some ad372) l0_2.length c0_2) ∧ w'.cell? ⟨gb371, 3, none⟩ = some (.slice A0_3 l0_3.length c0_3) ∧ w'.cell? (ad372.add ((x10_1).toNat * 2)) = some (.int .i64 ((rd_T30 l0_2 x10_1).f0)) ∧ w'.cell? ⟨(ad372.add ((x10_1).toNat * 2)).block, (ad372.add ((x10_1).toNat * 2)).off + 1, none⟩ = some (.int .i64 ((rd_T30 l0_2 x10_1).f1)) ∧ w'.cell? (ad372.add (((ji7)).toNat * 2)) = some (.int .i64 ((rd_T30 l0_2 (ji7)).f0)) ∧ w'.cell? ⟨(ad372.add (((ji7)).toNat * 2)).block, (ad372.add (((ji7)).toNat * 2)).off + 1, none⟩ = some (.int .i64 ((rd_T30 l0_2 (ji7)).f1))) ∧ (Kd.R k30 30 w' w.heap.size (fun k_ => k_ ≠ s_.1 ∧ k_ ≠ s_.2) u3 x3_1) ∧ (w'.heap[gb371]? = some (.cells #[.int .i64 a0_0, .int .i64 a0_1, .slice (some ad372) l0_2.length c0_2, .slice A0_3 l0_3.length c0_3] 78 (0, 0))) ∧ (w'.heap[s_.1]? = some (.cells #[.int .i64 0, .int .i64 0] 30 (0, 0))) ∧ (w'.heap[s_.2]? = some (.cells #[.int .i64 0, .int .i64 0] 30 (0, 0))) ∧ (w.heap.size ≤ s_.1) ∧ (w.heap.size ≤ s_.1) ∧ (gb371 ≠ s_.1) ∧ (s_.1 ≠ gb371) ∧ (s_.2 ≠ s_.1) ∧ (s_.1 ≠ s_.2) ∧ (w.heap.size ≤ s_.2) ∧ (w.heap.size ≤ s_.2) ∧ (gb371 ≠ s_.2) ∧ (s_.2 ≠ gb371) ∧ (Below w.heap.size w w')) ?_ ?_; rotate_left
    ·intro hCont; refine two_ (i := 11) (j := 12) (Ni := some 5) (Nj := some 6) (bl 15 4095) (bl 15 6143) rfl rfl rfl rfl (two_of HT_.out (by kernel_rfl)) (by decide) (by decide) (fun K hK => ?_) (fun K hK => ?_)
     ·skip
      refine bxs 5 #[.int .i64 0, .int .i64 0] 30 ?_; intro gb374 hg w16 hbox hb; have GW374 := gw hg; have GE374 := gw hg; have NB371_374 := nb BK371 hg; have NB374_371 := nc BK371 hg; replace HO_3 := rE HO_3 hg hb; replace BK371 := Aside0.mk (blk_below (uK BK371.out) hb); have BK374 := Aside0.mk (hbox); replace HB := Aside0.mk (below_step uB hb); clear hb hbox hg; refine hK.out _ _ ⟨(blk_cell BK371.out 0).trans rfl, (blk_cell BK371.out 1).trans rfl, (blk_cell BK371.out 2).trans rfl, (blk_cell BK371.out 3).trans rfl, (hcell HB.out hw372_0), (hcell HB.out hw372_1), (hcell HB.out hw373_0), (hcell HB.out hw373_1)⟩ (fun hHeld => ?_); clear hK K; refine nm ?_; refine one_ (i := 12) (N := some 6) (bl 15 8191) rfl rfl (one_of HT_.out (by kernel_rfl)) (by decide) (fun K hK => ?_); refine bxs 6 #[.int .i64 0, .int .i64 0] 30 ?_; intro gb375 hg w17 hbox hb; have GW375 := gw hg; have GE375 := gw hg; have NB371_375 := nb BK371 hg; have NB375_371 := nc BK371 hg; have NB374_375 := nb BK374 hg; have NB375_374 := nc BK374 hg; replace HO_3 := rE HO_3 hg hb; replace BK371 := Aside0.mk (blk_below (uK BK371.out) hb); replace BK374 := Aside0.mk (blk_below (uK BK374.out) hb); have BK375 := Aside0.mk (hbox); replace HB := Aside0.mk (below_step uB hb); clear hb hbox hg; refine hK.out _ _ ⟨(blk_cell BK371.out 0).trans rfl, (blk_cell BK371.out 1).trans rfl, (blk_cell BK371.out 2).trans rfl, (blk_cell BK371.out 3).trans rfl, (hcell HB.out hw372_0), (hcell HB.out hw372_1), (hcell HB.out hw373_0), (hcell HB.out hw373_1)⟩ (fun hHeld => ?_); clear hK K; refine nm ?_; exact norm_ (by simp only [putAll, Act.put, List.setIfInBounds_toArray, List.set_cons_zero, List.set_cons_succ]) (hCont (gb374, gb375) _ ⟨hHeld, (by refine uR ?_; exact Kd.R_mono HO_3.out (fun _ hk => ⟨hk.1.2, hk.2⟩)), (uK BK371.out), (uK BK374.out), (uK BK375.out), GW374.out, GE374.out, NB371_374.out, NB374_371.out, NB375_374.out, NB374_375.out, GW375.out, GE375.out, NB371_375.out, NB375_371.out, uB⟩)
     ·skip
      refine bxs 6 #[.int .i64 0, .int .i64 0] 30 ?_; intro gb375 hg w16 hbox hb; have GW375 := gw hg; have GE375 := gw hg; have NB371_375 := nb BK371 hg; have NB375_371 := nc BK371 hg; replace HO_3 := rE HO_3 hg hb; replace BK371 := Aside0.mk (blk_below (uK BK371.out) hb); have BK375 := Aside0.mk (hbox); replace HB := Aside0.mk (below_step uB hb); clear hb hbox hg; refine hK.out _ _ ⟨(blk_cell BK371.out 0).trans rfl, (blk_cell BK371.out 1).trans rfl, (blk_cell BK371.out 2).trans rfl, (blk_cell BK371.out 3).trans rfl, (hcell HB.out hw372_0), (hcell HB.out hw372_1), (hcell HB.out hw373_0), (hcell HB.out hw373_1)⟩ (fun hHeld => ?_); clear hK K; refine nm ?_; refine one_ (i := 11) (N := some 5) (bl 15 8191) rfl rfl (one_of HT_.out (by kernel_rfl)) (by decide) (fun K hK => ?_); refine bxs 5 #[.int .i64 0, .int .i64 0] 30 ?_; intro gb374 hg w17 hbox hb; have GW374 := gw hg; have GE374 := gw hg; have NB371_374 := nb BK371 hg; have NB374_371 := nc BK371 hg; have NB375_374 := nb BK375 hg; have NB374_375 := nc BK375 hg; replace HO_3 := rE HO_3 hg hb; replace BK371 := Aside0.mk (blk_below (uK BK371.out) hb); replace BK375 := Aside0.mk (blk_below (uK BK375.out) hb); have BK374 := Aside0.mk (hbox); replace HB := Aside0.mk (below_step uB hb); clear hb hbox hg; refine hK.out _ _ ⟨(blk_cell BK371.out 0).trans rfl, (blk_cell BK371.out 1).trans rfl, (blk_cell BK371.out 2).trans rfl, (blk_cell BK371.out 3).trans rfl, (hcell HB.out hw372_0), (hcell HB.out hw372_1), (hcell HB.out hw373_0), (hcell HB.out hw373_1)⟩ (fun hHeld => ?_); clear hK K; refine nm ?_; exact norm_ (by simp only [putAll, Act.put, List.setIfInBounds_toArray, List.set_cons_zero, List.set_cons_succ]) (hCont (gb374, gb375) _ ⟨hHeld, (by refine uR ?_; exact Kd.R_mono HO_3.out (fun _ hk => ⟨hk.2, hk.1.2⟩)), (uK BK371.out), (uK BK374.out), (uK BK375.out), GW374.out, GE374.out, NB371_374.out, NB374_371.out, NB375_374.out, NB374_375.out, GW375.out, GE375.out, NB371_375.out, NB375_371.out, uB⟩)
    rintro ⟨gb374, gb375⟩ w18 ⟨hS_, h0_, h1_, h2_, h3_, h4_, h5_, h6_, h7_, h8_, h9_, h10_, h11_, h12_, h13_, h14_⟩
    dsimp only at h0_ h1_ h2_ h3_ h4_ h5_ h6_ h7_ h8_ h9_ h10_ h11_ h12_ h13_ h14_
    have n0_ := Aside0.mk h0_; have n1_ := Aside0.mk h1_; have n2_ := Aside0.mk h2_; have n3_ := Aside0.mk h3_; have n4_ := Aside0.mk h4_; have n5_ := Aside0.mk h5_; have n6_ := Aside0.mk h6_; have n7_ := Aside0.mk h7_; have n8_ := Aside0.mk h8_; have n9_ := Aside0.mk h9_; have n10_ := Aside0.mk h10_; have n11_ := Aside0.mk h11_; have n12_ := Aside0.mk h12_; have n13_ := Aside0.mk h13_; have n14_ := Aside0.mk h14_; clear HO_3 BK371 HB; clear h0_ h1_ h2_ h3_ h4_ h5_ h6_ h7_ h8_ h9_ h10_ h11_ h12_ h13_ h14_; have HO_3 := n0_; have BK371 := n1_; have BK374 := n2_; have BK375 := n3_; have GW374 := n4_; have GE374 := n5_; have NB371_374 := n6_; have NB374_371 := n7_; have NB375_374 := n8_; have NB374_375 := n9_; have GW375 := n10_; have GE375 := n11_; have NB371_375 := n12_; have NB375_371 := n13_; have HB := n14_; clear n0_ n1_ n2_ n3_ n4_ n5_ n6_ n7_ n8_ n9_ n10_ n11_ n12_ n13_ n14_; have hHeld : w18.cell? ⟨gb371, 0, none⟩ = some (.int .i64 a0_0) ∧ w18.cell? ⟨gb371, 1, none⟩ = some (.int .i64 a0_1) ∧ w18.cell? ⟨gb371, 2, none⟩ = some (.slice (some ad372) l0_2.length c0_2) ∧ w18.cell? ⟨gb371, 3, none⟩ = some (.slice A0_3 l0_3.length c0_3) ∧ w18.cell? (ad372.add ((x10_1).toNat * 2)) = some (.int .i64 ((rd_T30 l0_2 x10_1).f0)) ∧ w18.cell? ⟨(ad372.add ((x10_1).toNat * 2)).block, (ad372.add ((x10_1).toNat * 2)).off + 1, none⟩ = some (.int .i64 ((rd_T30 l0_2 x10_1).f1)) ∧ w18.cell? (ad372.add (((ji7)).toNat * 2)) = some (.int .i64 ((rd_T30 l0_2 (ji7)).f0)) ∧ w18.cell? ⟨(ad372.add (((ji7)).toNat * 2)).block, (ad372.add (((ji7)).toNat * 2)).off + 1, none⟩ = some (.int .i64 ((rd_T30 l0_2 (ji7)).f1)) := hS_; refine nm ?_; refine one_ (i := 13) (N := none) (bl 15 16383) rfl rfl (one_of HT_.out (by kernel_rfl)) (by decide) (fun K hK => ?_); have hs19 := (blk_cell BK374.out 0).trans rfl; have hfs19 := blk_frozen BK374.out 0; have hns19_0 := NB371_374.out; have hns19_2 := NB375_374.out; have hms19_0 := NB374_371.out; have hms19_2 := NB374_375.out; have hs20 := (blk_cell BK374.out 1).trans rfl; have hfs20 := blk_frozen BK374.out 1; have hns20_0 := NB371_374.out; have hns20_2 := NB375_374.out; have hms20_0 := NB374_371.out; have hms20_2 := NB374_375.out; refine skip_ (w1 := ?_) (by rfl) rfl ?_ ?_; rotate_left
    ·go_simp
     rfl
    refine hK.out _ _ ⟨((cf gb374 NB371_374.out).trans (((cf gb374 NB371_374.out).trans (hHeld.1)))), ((cf gb374 NB371_374.out).trans (((cf gb374 NB371_374.out).trans (hHeld.2.1)))), ((cf gb374 NB371_374.out).trans (((cf gb374 NB371_374.out).trans (hHeld.2.2.1)))), ((cf gb374 NB371_374.out).trans (((cf gb374 NB371_374.out).trans (hHeld.2.2.2.1)))), ((cf gb374 (fl hw372_0 GW374)).trans (((cf gb374 (fl hw372_0 GW374)).trans (hHeld.2.2.2.2.1)))), ((cf gb374 (fl hw372_1 GW374)).trans (((cf gb374 (fl hw372_1 GW374)).trans (hHeld.2.2.2.2.2.1)))), ((cf gb374 (fl hw373_0 GW374)).trans (((cf gb374 (fl hw373_0 GW374)).trans (hHeld.2.2.2.2.2.2.1)))), ((cf gb374 (fl hw373_1 GW374)).trans (((cf gb374 (fl hw373_1 GW374)).trans (hHeld.2.2.2.2.2.2.2))))⟩ (fun hHeld => ?_); clear hK K; refine one_ (i := 14) (N := none) (bl 15 32767) rfl rfl (one_of HT_.out (by kernel_rfl)) (by decide) (fun K hK => ?_); have hs21 := (blk_cell BK375.out 0).trans rfl; have hfs21 := blk_frozen BK375.out 0; have hns21_0 := NB371_375.out; have hns21_1 := NB374_375.out; have hms21_0 := NB375_371.out; have hms21_1 := NB375_374.out; have hs22 := (blk_cell BK375.out 1).trans rfl; have hfs22 := blk_frozen BK375.out 1; have hns22_0 := NB371_375.out; have hns22_1 := NB374_375.out; have hms22_0 := NB375_371.out; have hms22_1 := NB375_374.out; refine skip_ (w1 := ?_) (by rfl) rfl ?_ ?_; rotate_left
    ·go_simp
     rfl
    refine hK.out _ _ ⟨((cf gb375 NB371_375.out).trans (((cf gb375 NB371_375.out).trans (hHeld.1)))), ((cf gb375 NB371_375.out).trans (((cf gb375 NB371_375.out).trans (hHeld.2.1)))), ((cf gb375 NB371_375.out).trans (((cf gb375 NB371_375.out).trans (hHeld.2.2.1)))), ((cf gb375 NB371_375.out).trans (((cf gb375 NB371_375.out).trans (hHeld.2.2.2.1)))), ((cf gb375 (fl hw372_0 GW375)).trans (((cf gb375 (fl hw372_0 GW375)).trans (hHeld.2.2.2.2.1)))), ((cf gb375 (fl hw372_1 GW375)).trans (((cf gb375 (fl hw372_1 GW375)).trans (hHeld.2.2.2.2.2.1)))), ((cf gb375 (fl hw373_0 GW375)).trans (((cf gb375 (fl hw373_0 GW375)).trans (hHeld.2.2.2.2.2.2.1)))), ((cf gb375 (fl hw373_1 GW375)).trans (((cf gb375 (fl hw373_1 GW375)).trans (hHeld.2.2.2.2.2.2.2))))⟩ (fun hHeld => ?_); clear hK K; refine done_ (done_of HT_.out (by kernel_rfl)) ?_; have hnb23 := NB371_374.out; have hnc23 := NB374_371.out; have hnb24 := NB371_375.out; have hnc24 := NB375_371.out; obtain ⟨hcz25_0, hcz25_1, hcz25_2, hcz25_3⟩ := cz4 BK371.out; obtain ⟨hfz25_0, hfz25_1, hfz25_2, hfz25_3⟩ := fz4 BK371.out; have hnb26 := NB374_375.out; have hnc26 := NB375_374.out; obtain ⟨hcz27_0, hcz27_1⟩ := cz2 BK374.out; obtain ⟨hfz27_0, hfz27_1⟩ := fz2 BK374.out; obtain ⟨hcz28_0, hcz28_1⟩ := cz2 BK375.out; obtain ⟨hfz28_0, hfz28_1⟩ := fz2 BK375.out; try go_wp2_with (first | ((with_reducible refine gate_builtin (b := .append) (xs := #[.tmp 24, .tmp 46]) rfl ?_); at_builtin; refine Kd.R_append k30 (w0 := w) w.heap.size rfl (.tmp 24) (.tmp 46) 74 30 (.agg #[(.int .i64 0), (.int .i64 0)]) 16 rfl Tryz.underlying74 info30 rfl (by decide) (by omega) u3 x3_1 (⟨ji11, ji13⟩ : S30) [.int .i64 ji11, .int .i64 ji13] (fun k_ => k_ ≠ gb374 ∧ k_ ≠ gb375) (fun _ => False) rfl (by first | (go_simp; done) | (go_simp; rfl)) ?aP (fun _ hk => hk.elim) ?aF ?aO ?aB ?aS ?aL ?_; (case aP => exact k30_mkM _ _ _ (⟨ji11, ji13⟩ : S30)); (case aB => exact uB); (case aF => exact (fun k_ hk => ⟨Kd.freshB (g := gb374) (o := .cells #[.int .i64 ((rd_T30 l0_2 x10_1).f0), .int .i64 ((rd_T30 l0_2 x10_1).f1)] 30 (0, 0)) (by refine uK ?_; refine blk_far ?_ NB374_375.out _; refine uK ?_; refine blk_far ?_ NB374_375.out _; refine uK ?_; refine blk_put (cs := #[.int .i64 ((rd_T30 l0_2 x10_1).f0), .int .i64 0]) ?_ 1 _ rfl; refine uK ?_; refine blk_put (cs := #[.int .i64 0, .int .i64 0]) ?_ 0 _ rfl; refine uK ?_; exact BK374.out) k_ hk, Kd.freshB (g := gb375) (o := .cells #[.int .i64 ((rd_T30 l0_2 (ji7)).f0), .int .i64 ((rd_T30 l0_2 (ji7)).f1)] 30 (0, 0)) (by refine uK ?_; refine blk_put (cs := #[.int .i64 ((rd_T30 l0_2 (ji7)).f0), .int .i64 0]) ?_ 1 _ rfl; refine uK ?_; refine blk_put (cs := #[.int .i64 0, .int .i64 0]) ?_ 0 _ rfl; refine uK ?_; refine blk_far ?_ NB375_374.out _; refine uK ?_; refine blk_far ?_ NB375_374.out _; refine uK ?_; exact BK375.out) k_ hk⟩)); (case aO => exact (by refine uR ?_; exact Kd.R_mono (Kd.R_far (p := ⟨gb375, 1, none⟩) (Kd.R_far (p := ⟨gb375, 0, none⟩) (Kd.R_far (p := ⟨gb374, 1, none⟩) (Kd.R_far (p := ⟨gb374, 0, none⟩) (Kd.R_mono (Kd.R_mono HO_3.out (fun k_ hk => (⟨hk, hk.1⟩ : _ ∧ k_ ≠ gb374))) (fun k_ hk => (⟨hk, hk.1.2⟩ : _ ∧ k_ ≠ gb375))) (fun _ hk => hk.1.2) (.int .i64 ((rd_T30 l0_2 x10_1).f0))) (fun _ hk => hk.1.2) (.int .i64 ((rd_T30 l0_2 x10_1).f1))) (fun _ hk => hk.2) (.int .i64 ((rd_T30 l0_2 (ji7)).f0))) (fun _ hk => hk.2) (.int .i64 ((rd_T30 l0_2 (ji7)).f1))) (fun _ hk => ⟨hk.1.1.1, hk.1.1.2⟩))); (case aS => exact (below_size uB)); (case aL => have := LMc14.out; omega); intro v377 w29 ho hb hg hat; rw [← Ny376.out] at ho; replace BK371 := Aside0.mk (blk_grown (g := gb371) (o := .cells #[.int .i64 a0_0, .int .i64 a0_1, .slice (some ad372) l0_2.length c0_2, .slice A0_3 l0_3.length c0_3] 78 (0, 0)) (by refine uK ?_; refine blk_far ?_ NB371_375.out _; refine uK ?_; refine blk_far ?_ NB371_375.out _; refine uK ?_; refine blk_far ?_ NB371_374.out _; refine uK ?_; refine blk_far ?_ NB371_374.out _; refine uK ?_; exact BK371.out) hg (Kd.R_ne HO_3.out BK371.out (by decide))); replace BK374 := Aside0.mk (blk_grown (g := gb374) (o := .cells #[.int .i64 ((rd_T30 l0_2 x10_1).f0), .int .i64 ((rd_T30 l0_2 x10_1).f1)] 30 (0, 0)) (by refine uK ?_; refine blk_far ?_ NB374_375.out _; refine uK ?_; refine blk_far ?_ NB374_375.out _; refine uK ?_; refine blk_put (cs := #[.int .i64 ((rd_T30 l0_2 x10_1).f0), .int .i64 0]) ?_ 1 _ rfl; refine uK ?_; refine blk_put (cs := #[.int .i64 0, .int .i64 0]) ?_ 0 _ rfl; refine uK ?_; exact BK374.out) hg (Kd.R_away HO_3.out (fun _ hk => hk.1))); replace BK375 := Aside0.mk (blk_grown (g := gb375) (o := .cells #[.int .i64 ((rd_T30 l0_2 (ji7)).f0), .int .i64 ((rd_T30 l0_2 (ji7)).f1)] 30 (0, 0)) (by refine uK ?_; refine blk_put (cs := #[.int .i64 ((rd_T30 l0_2 (ji7)).f0), .int .i64 0]) ?_ 1 _ rfl; refine uK ?_; refine blk_put (cs := #[.int .i64 0, .int .i64 0]) ?_ 0 _ rfl; refine uK ?_; refine blk_far ?_ NB375_374.out _; refine uK ?_; refine blk_far ?_ NB375_374.out _; refine uK ?_; exact BK375.out) hg (Kd.R_away HO_3.out (fun _ hk => hk.2))); have HO378 := Aside0.mk (ho); replace HB := Aside0.mk (hb); clear HO_3; clear ho hb hg hat))
    go_roundg k1
    case measure => have := HK1.out; omega
    case rel => exact ⟨(y376), (ji7), (by first | rfl | (simp; done) | (simp only [← hji7] <;> (first | rfl | simp)) | (simp [*]; done)), H', ⟨by have := HK1.out; omega⟩, ⟨by refine uR ?_; exact Kd.R_mono HO378.out (fun _ hk => trivial)⟩, ⟨uK BK371.out⟩, ⟨uB⟩⟩
   ·rw [if_neg c4] at H; replace c4 := decide_eq_false c4; obtain rfl := Option.some.inj H; go_wp2; go_ret; exact ⟨_, uE, uR HO_3.out, uB⟩
end Go.Proofs.YtdmdahafiiggiaaGreatDoor.K
end
section
namespace Go.Proofs.YtdmdahafiiggiaaGreatDoor.K
open Go.RowKit Go.Proofs.YtdmdahafiiggiaaGreatDoorW.PrintWords Go.Proofs.YtdmdahafiiggiaaGreatDoorW.PrintLast Go.Proofs.YtdmdahafiiggiaaGreatDoorW.PrintMore
attribute [local go_sem] max2_int min2_int max_two min_two max_three min_three max_four min_four
def channel_bursts.l0 : Nat → List (S123) → List Int → List Int → List (S30) → Int → Int → Option (List Int)
 | 0, _, _, _, _, _, _ => none
 | k + 1, x1, x2, x7, x11, x12, x13 => if x13 < x12 then (if 0 ≤ x13 then (if x13 < (x11.length : Int) then (if x13 < (x2.length : Int) then (if 0 ≤ (rd x2 x13) then (if (rd x2 x13) < (x1.length : Int) then (if ((rd_T30 x11 x13).f1) > ((rd_T123 x1 (rd x2 x13)).f0) then (if x7.length < 17592186044416 then (channel_bursts.l0 k x1 x2 (x7 ++ [x13]) x11 x12 (wrap64 (x13 + 1))) else (none)) else (channel_bursts.l0 k x1 x2 x7 x11 x12 (wrap64 (x13 + 1)))) else (none)) else (none)) else (none)) else (none)) else (none)) else (some x7)
def channel_bursts.f (k : Nat) (a0_0 : Int) (a0_1 : Int) (l0_2 : List (S30)) (l0_3 : List Int) (l1 : List (S123)) (l2 : List Int) : Option (List Int) := (channel_pressures.f k a0_0 a0_1 l0_2 l0_3).bind fun t396 => (channel_bursts.l0 k l1 l2 ([] : List Int) t396 (t396.length : Int) 0)
set_option maxHeartbeats 8000000 in
set_option maxRecDepth 100000 in
theorem channel_bursts.calls (k : Nat) (a0_0 : Int) (a0_1 : Int) (A0_2 : Option Addr) (c0_2 : Nat) (l0_2 : List (S30)) (A0_3 : Option Addr) (c0_3 : Nat) (l0_3 : List Int) (A1 : Option Addr) (c1 : Nat) (l1 : List (S123)) (A2 : Option Addr) (c2 : Nat) (l2 : List Int) (r : List Int) (w : World) (hr0_2 : Kd.C k30 w A0_2 l0_2.length l0_2) (hc0_2 : l0_2.length ≤ c0_2) (hr0_3 : Kd.C (Kd.int .i64) w A0_3 l0_3.length l0_3) (hc0_3 : l0_3.length ≤ c0_3) (hr1 : Kd.C k123 w A1 l1.length l1) (hc1 : l1.length ≤ c1) (hr2 : Kd.C (Kd.int .i64) w A2 l2.length l2) (hc2 : l2.length ≤ c2) (h : channel_bursts.f k a0_0 a0_1 l0_2 l0_3 l1 l2 = some r) :
  Calls Tryz.prog 92 #[.agg #[.int .i64 a0_0, .int .i64 a0_1, .slice A0_2 l0_2.length c0_2, .slice A0_3 l0_3.length c0_3], .slice A1 l1.length c1, .slice A2 l2.length c2] w fun e w' => ∃ v0_ : Value, e = .returned (v0_) ∧ Kd.R (Kd.int .i64) 3 w' w.heap.size (fun _ => True) v0_ r ∧ Below w.heap.size w w' := by
 have hu78 := Tryz.underlying78; have hu30 := Tryz.underlying30; have HR0_2 := Aside0.mk hr0_2; have HC0_2 := Aside0.mk hc0_2; clear hr0_2 hc0_2; have HR0_3 := Aside0.mk hr0_3; have HC0_3 := Aside0.mk hc0_3; clear hr0_3 hc0_3; have HR1 := Aside0.mk hr1; have HC1 := Aside0.mk hc1; clear hr1 hc1; have HR2 := Aside0.mk hr2; have HC2 := Aside0.mk hc2; clear hr2 hc2; have HB := Aside0.mk (Below.refl w.heap.size w); have H : ((channel_pressures.f k a0_0 a0_1 l0_2 l0_3).bind fun t396 => (channel_bursts.l0 k l1 l2 ([] : List Int) t396 (t396.length : Int) 0)) = some r := h; clear h; replace H := Option.bind_eq_some_iff.mp H; obtain ⟨t396, A40, H⟩ := H; replace H : (channel_bursts.l0 k l1 l2 ([] : List Int) t396 (t396.length : Int) 0) = some r := H; have A4 := Aside0.mk A40; clear A40; have H' := Aside0.mk H; clear H
 go_enter Tryz.func92, Tryz.ntmps92
 go_wp2_with (first | ((with_reducible refine gate_dst (N := 3) rfl ?_); refine bxe 3 #[.int .i64 a0_0, .int .i64 a0_1, .slice A0_2 l0_2.length c0_2, .slice A0_3 l0_3.length c0_3] 78 ?_; intro gb395 hg w5 hbox hb; have GW395 := gw hg; have GE395 := gw hg; have BK395 := Aside0.mk (hbox); replace HB := Aside0.mk (below_step uB hb); clear hb hbox hg; obtain ⟨hcz6_0, hcz6_1, hcz6_2, hcz6_3⟩ := cz4 BK395.out; obtain ⟨hfz6_0, hfz6_1, hfz6_2, hfz6_3⟩ := fz4 BK395.out) | (go_at_call 88; (with_reducible refine (channel_pressures.calls k a0_0 a0_1 _ _ l0_2 _ _ l0_3 t396 _ ?side1 ?side2 ?side3 ?side4 A4.out).mono ?_); (case side1 => repeat (first | exact (Kd.C_below HR0_2.out HB.out) | (with_reducible refine Kd.C_alloc ?_ _) | (with_reducible refine Kd.C_drewN ?_ _) | (with_reducible refine Kd.C_drew ?_))); (case side2 => exact HC0_2.out); (case side3 => repeat (first | exact (Kd.C_below HR0_3.out HB.out) | (with_reducible refine Kd.C_alloc ?_ _) | (with_reducible refine Kd.C_drewN ?_ _) | (with_reducible refine Kd.C_drew ?_))); (case side4 => exact HC0_3.out); rintro e w7 ⟨v397, rfl, ho0, hb⟩; have HO398 := Aside0.mk (Kd.R_lower ho0 (below_size uB)); replace BK395 := Aside0.mk (blk_below (uK BK395.out) hb); replace HB := Aside0.mk (below_step uB hb); (try clear hb); (try clear ho0); obtain ⟨Ao8, co8, eo8⟩ := Kd.R_slice HO398.out; subst eo8))
 go_loopg [7, 13] k (fun kq v7 v13 w' => ∃ (x7_1 : List Int) (x13_1 : Int), v13 = .int .i64 x13_1 ∧ Aside0 (channel_bursts.l0 kq l1 l2 x7_1 t396 (t396.length : Int) x13_1 = some r) ∧ Aside0 (kq ≤ k) ∧ Aside0 (Kd.R (Kd.int .i64) 3 w' w.heap.size (fun _ => True) v7 x7_1) ∧ Aside0 (Kd.R k30 30 w' w.heap.size (fun _ => True) (.slice Ao8 t396.length co8) t396) ∧ Aside0 (w'.heap[gb395]? = some (.cells #[.int .i64 a0_0, .int .i64 a0_1, (.slice A0_2 l0_2.length c0_2), (.slice A0_3 l0_3.length c0_3)] 78 (0, 0))) ∧ Aside0 (Below w.heap.size w w'))
 case atStart => exact ⟨(([] : List Int)), (0), u0, H', ⟨Nat.le_refl _⟩, ⟨uN⟩, ⟨uR HO398.out⟩, ⟨uK BK395.out⟩, ⟨uB⟩⟩
 case round =>
  clear H'; try clear c1; try clear c2; try clear p2; try clear hcz6_0; try clear hcz6_1; try clear hcz6_2; try clear hcz6_3; try clear hfz6_0; try clear hfz6_1; try clear hfz6_2; try clear hfz6_3
  obtain ⟨x7_1, x13_1, rfl, HA, HK1, HO_7, HO_11, BK395, HB⟩ := hrel
  cases gk with
  | zero => exact absurd HA.out (by simp [channel_bursts.l0])
  | succ k1 =>
   have H := HA.out; clear HA; simp only [channel_bursts.l0] at H
   by_cases c9 : x13_1 < (t396.length : Int)
   ·rw [if_pos c9] at H; replace c9 := decide_eq_true c9; obtain ⟨c10, H⟩ := ifs H; replace c10 := decide_eq_true c10; obtain ⟨c11, H⟩ := ifs H; replace c11 := decide_eq_true c11; obtain ⟨c12, H⟩ := ifs H; replace c12 := decide_eq_true c12; obtain ⟨c13, H⟩ := ifs H; replace c13 := decide_eq_true c13; obtain ⟨c14, H⟩ := ifs H; replace c14 := decide_eq_true c14
    by_cases c15 : ((rd_T30 t396 x13_1).f1) > ((rd_T123 l1 (rd l2 x13_1)).f0)
    ·rw [if_pos c15] at H; replace c15 := decide_eq_true c15; obtain ⟨c16, H⟩ := ifs H; have LMc16 := Aside0.mk c16; clear c16; obtain ⟨y403, hy403⟩ : ∃ y_ : List Int, y_ = (x7_1 ++ [x13_1]) := ⟨_, rfl⟩; rw [← hy403] at H; have Ny403 := Aside0.mk hy403; clear hy403; have H' := Aside0.mk H; clear H; have p399 : 0 ≤ (x13_1 : Int) := of_decide_eq_true (by assumption); have q399 : x13_1 < (t396.length : Int) := of_decide_eq_true (by assumption); obtain ⟨ad399, e399, hx399_0, hx399_1⟩ := at_T30 (Kd.R_reads' HO_11.out).2.2 x13_1 p399 q399
     cases e399
     replace p399 := eq_true p399; replace q399 := eq_true q399
     go_wp2_with (first | ((with_reducible refine gate_dst (N := 9) rfl ?_); refine bxe 9 #[.int .i64 0, .int .i64 0] 30 ?_; intro gb400 hg w17 hbox hb; have GW400 := gw hg; have GE400 := gw hg; have NB395_400 := nb BK395 hg; have NB400_395 := nc BK395 hg; replace HO_7 := Aside0.mk (Kd.R_below (uR HO_7.out) hb); replace HO_11 := rE HO_11 hg hb; replace BK395 := Aside0.mk (blk_below (uK BK395.out) hb); have BK400 := Aside0.mk (hbox); replace HB := Aside0.mk (below_step uB hb); clear hb hbox hg; have hnb18 := NB400_395.out; have hnc18 := NB395_400.out; obtain ⟨hcz19_0, hcz19_1⟩ := cz2 BK400.out; obtain ⟨hfz19_0, hfz19_1⟩ := fz2 BK400.out; have p401 : 0 ≤ (x13_1 : Int) := of_decide_eq_true (by assumption); have q401 : x13_1 < (l2.length : Int) := of_decide_eq_true (by assumption); obtain ⟨ad401, e401, hx401_0⟩ := Kd.at_int HR2.out x13_1 p401 q401; cases e401; have hn401_0 : ad401.block ≠ gb400 := Nat.ne_of_lt (Nat.lt_of_lt_of_le (bl1 hx401_0) GW400.out); have hn401_1 : ad401.block ≠ gb400 := Nat.ne_of_lt (Nat.lt_of_lt_of_le (bl1 hx401_0) GW400.out); replace hx401_0 := hcell HB.out hx401_0; replace hx401_0 := (cell_far (p := ⟨gb400, 0, none⟩) (fx hn401_0) (.int .i64 ((rd_T30 t396 x13_1).f0))).trans hx401_0; replace hx401_0 := (cell_far (p := ⟨gb400, 1, none⟩) (fx hn401_1) (.int .i64 ((rd_T30 t396 x13_1).f1))).trans hx401_0; (try have hy401_0 := fun (n_ : Nat) => (show ((((w17.drewN n_).setCell ⟨gb400, 0, none⟩ (.int .i64 ((rd_T30 t396 x13_1).f0))).setCell ⟨gb400, 1, none⟩ (.int .i64 ((rd_T30 t396 x13_1).f1)))).cell? _ = some _ from hx401_0)); clear hn401_0; clear hn401_1; replace p401 := eq_true p401; replace q401 := eq_true q401; have p402 : 0 ≤ ((rd l2 x13_1) : Int) := of_decide_eq_true (by assumption); have q402 : (rd l2 x13_1) < (l1.length : Int) := of_decide_eq_true (by assumption); obtain ⟨ad402, e402, hx402_0, hx402_1, hx402_2⟩ := at_T123 HR1.out (rd l2 x13_1) p402 q402; cases e402; have hn402_0 : ad402.block ≠ gb400 := Nat.ne_of_lt (Nat.lt_of_lt_of_le (bl1 hx402_0) GW400.out); have hn402_1 : ad402.block ≠ gb400 := Nat.ne_of_lt (Nat.lt_of_lt_of_le (bl1 hx402_0) GW400.out); replace hx402_0 := hcell HB.out hx402_0; replace hx402_1 := hcell HB.out hx402_1; replace hx402_2 := hcell HB.out hx402_2; replace hx402_0 := (cell_far (p := ⟨gb400, 0, none⟩) (fx hn402_0) (.int .i64 ((rd_T30 t396 x13_1).f0))).trans hx402_0; replace hx402_1 := (cell_far (p := ⟨gb400, 0, none⟩) (fx hn402_0) (.int .i64 ((rd_T30 t396 x13_1).f0))).trans hx402_1; replace hx402_2 := (cell_far (p := ⟨gb400, 0, none⟩) (fx hn402_0) (.int .i64 ((rd_T30 t396 x13_1).f0))).trans hx402_2; replace hx402_0 := (cell_far (p := ⟨gb400, 1, none⟩) (fx hn402_1) (.int .i64 ((rd_T30 t396 x13_1).f1))).trans hx402_0; replace hx402_1 := (cell_far (p := ⟨gb400, 1, none⟩) (fx hn402_1) (.int .i64 ((rd_T30 t396 x13_1).f1))).trans hx402_1; replace hx402_2 := (cell_far (p := ⟨gb400, 1, none⟩) (fx hn402_1) (.int .i64 ((rd_T30 t396 x13_1).f1))).trans hx402_2; (try have hy402_0 := fun (n_ : Nat) => (show ((((w17.drewN n_).setCell ⟨gb400, 0, none⟩ (.int .i64 ((rd_T30 t396 x13_1).f0))).setCell ⟨gb400, 1, none⟩ (.int .i64 ((rd_T30 t396 x13_1).f1)))).cell? _ = some _ from hx402_0)); (try have hy402_1 := fun (n_ : Nat) => (show ((((w17.drewN n_).setCell ⟨gb400, 0, none⟩ (.int .i64 ((rd_T30 t396 x13_1).f0))).setCell ⟨gb400, 1, none⟩ (.int .i64 ((rd_T30 t396 x13_1).f1)))).cell? _ = some _ from hx402_1)); (try have hy402_2 := fun (n_ : Nat) => (show ((((w17.drewN n_).setCell ⟨gb400, 0, none⟩ (.int .i64 ((rd_T30 t396 x13_1).f0))).setCell ⟨gb400, 1, none⟩ (.int .i64 ((rd_T30 t396 x13_1).f1)))).cell? _ = some _ from hx402_2)); clear hn402_0; clear hn402_1; replace p402 := eq_true p402; replace q402 := eq_true q402) | ((with_reducible refine gate_builtin (b := .append) (xs := #[.tmp 29, .tmp 31]) rfl ?_); at_builtin; refine Kd.R_append (Kd.int .i64) (w0 := w) w.heap.size rfl (.tmp 29) (.tmp 31) 22 3 (.int .i64 0) 8 rfl Tryz.underlying22 info3 rfl (by decide) (by omega) u7 x7_1 x13_1 [.int .i64 x13_1] (fun _ => True) (fun _ => False) rfl (by first | (go_simp; done) | (go_simp; rfl)) ?aP (fun _ hk => hk.elim) ?aF ?aO ?aB ?aS ?aL ?_; (case aP => exact rfl); (case aB => exact uB); (case aF => exact (fun _ _ => trivial)); (case aO => exact (by refine uR ?_; exact Kd.R_mono (Kd.R_far (p := ⟨gb400, 1, none⟩) (Kd.R_far (p := ⟨gb400, 0, none⟩) (Kd.R_types HO_7.out BK400.out (by decide)) (fun _ hk => hk.2) (.int .i64 ((rd_T30 t396 x13_1).f0))) (fun _ hk => hk.2) (.int .i64 ((rd_T30 t396 x13_1).f1))) (fun _ hk => trivial))); (case aS => exact (below_size uB)); (case aL => have := LMc16.out; omega); intro v404 w20 ho hb hg hat; rw [← Ny403.out] at ho; replace HO_11 := Aside0.mk (Kd.R_over' (by refine uR ?_; exact (Kd.R_mono (Kd.R_far (p := ⟨gb400, 1, none⟩) (Kd.R_far (p := ⟨gb400, 0, none⟩) (Kd.R_mono HO_11.out (fun k_ hk => (⟨hk, hk.2⟩ : _ ∧ k_ ≠ gb400))) (fun _ hk => hk.2) (.int .i64 ((rd_T30 t396 x13_1).f0))) (fun _ hk => hk.2) (.int .i64 ((rd_T30 t396 x13_1).f1))) (fun _ h_ => h_.1))) (Kd.R_typed (by refine uR ?_; exact (Kd.R_mono (Kd.R_far (p := ⟨gb400, 1, none⟩) (Kd.R_far (p := ⟨gb400, 0, none⟩) (Kd.R_types HO_7.out BK400.out (by decide)) (fun _ hk => hk.2) (.int .i64 ((rd_T30 t396 x13_1).f0))) (fun _ hk => hk.2) (.int .i64 ((rd_T30 t396 x13_1).f1))) (fun _ h_ => h_.1)))) (by decide) hg); replace BK395 := Aside0.mk (blk_grown (g := gb395) (o := .cells #[.int .i64 a0_0, .int .i64 a0_1, .slice A0_2 l0_2.length c0_2, .slice A0_3 l0_3.length c0_3] 78 (0, 0)) (by refine uK ?_; refine blk_far ?_ NB395_400.out _; refine uK ?_; refine blk_far ?_ NB395_400.out _; refine uK ?_; exact BK395.out) hg (Kd.R_ne HO_7.out BK395.out (by decide))); replace BK400 := Aside0.mk (blk_grown (g := gb400) (o := .cells #[.int .i64 ((rd_T30 t396 x13_1).f0), .int .i64 ((rd_T30 t396 x13_1).f1)] 30 (0, 0)) (by refine uK ?_; refine blk_put (cs := #[.int .i64 ((rd_T30 t396 x13_1).f0), .int .i64 0]) ?_ 1 _ rfl; refine uK ?_; refine blk_put (cs := #[.int .i64 0, .int .i64 0]) ?_ 0 _ rfl; refine uK ?_; exact BK400.out) hg (Kd.R_ne HO_7.out BK400.out (by decide))); have HO405 := Aside0.mk (ho); replace HB := Aside0.mk (hb); clear HO_7; clear ho hb hg hat))
     repeat (go_quiet (first | ((with_reducible refine gate_dst (N := 9) rfl ?_); refine bxe 9 #[.int .i64 0, .int .i64 0] 30 ?_; intro gb400 hg w17 hbox hb; have GW400 := gw hg; have GE400 := gw hg; have NB395_400 := nb BK395 hg; have NB400_395 := nc BK395 hg; replace HO_7 := Aside0.mk (Kd.R_below (uR HO_7.out) hb); replace HO_11 := rE HO_11 hg hb; replace BK395 := Aside0.mk (blk_below (uK BK395.out) hb); have BK400 := Aside0.mk (hbox); replace HB := Aside0.mk (below_step uB hb); clear hb hbox hg; have hnb18 := NB400_395.out; have hnc18 := NB395_400.out; obtain ⟨hcz19_0, hcz19_1⟩ := cz2 BK400.out; obtain ⟨hfz19_0, hfz19_1⟩ := fz2 BK400.out; have p401 : 0 ≤ (x13_1 : Int) := of_decide_eq_true (by assumption); have q401 : x13_1 < (l2.length : Int) := of_decide_eq_true (by assumption); obtain ⟨ad401, e401, hx401_0⟩ := Kd.at_int HR2.out x13_1 p401 q401; cases e401; have hn401_0 : ad401.block ≠ gb400 := Nat.ne_of_lt (Nat.lt_of_lt_of_le (bl1 hx401_0) GW400.out); have hn401_1 : ad401.block ≠ gb400 := Nat.ne_of_lt (Nat.lt_of_lt_of_le (bl1 hx401_0) GW400.out); replace hx401_0 := hcell HB.out hx401_0; replace hx401_0 := (cell_far (p := ⟨gb400, 0, none⟩) (fx hn401_0) (.int .i64 ((rd_T30 t396 x13_1).f0))).trans hx401_0; replace hx401_0 := (cell_far (p := ⟨gb400, 1, none⟩) (fx hn401_1) (.int .i64 ((rd_T30 t396 x13_1).f1))).trans hx401_0; (try have hy401_0 := fun (n_ : Nat) => (show ((((w17.drewN n_).setCell ⟨gb400, 0, none⟩ (.int .i64 ((rd_T30 t396 x13_1).f0))).setCell ⟨gb400, 1, none⟩ (.int .i64 ((rd_T30 t396 x13_1).f1)))).cell? _ = some _ from hx401_0)); clear hn401_0; clear hn401_1; replace p401 := eq_true p401; replace q401 := eq_true q401; have p402 : 0 ≤ ((rd l2 x13_1) : Int) := of_decide_eq_true (by assumption); have q402 : (rd l2 x13_1) < (l1.length : Int) := of_decide_eq_true (by assumption); obtain ⟨ad402, e402, hx402_0, hx402_1, hx402_2⟩ := at_T123 HR1.out (rd l2 x13_1) p402 q402; cases e402; have hn402_0 : ad402.block ≠ gb400 := Nat.ne_of_lt (Nat.lt_of_lt_of_le (bl1 hx402_0) GW400.out); have hn402_1 : ad402.block ≠ gb400 := Nat.ne_of_lt (Nat.lt_of_lt_of_le (bl1 hx402_0) GW400.out); replace hx402_0 := hcell HB.out hx402_0; replace hx402_1 := hcell HB.out hx402_1; replace hx402_2 := hcell HB.out hx402_2; replace hx402_0 := (cell_far (p := ⟨gb400, 0, none⟩) (fx hn402_0) (.int .i64 ((rd_T30 t396 x13_1).f0))).trans hx402_0; replace hx402_1 := (cell_far (p := ⟨gb400, 0, none⟩) (fx hn402_0) (.int .i64 ((rd_T30 t396 x13_1).f0))).trans hx402_1; replace hx402_2 := (cell_far (p := ⟨gb400, 0, none⟩) (fx hn402_0) (.int .i64 ((rd_T30 t396 x13_1).f0))).trans hx402_2; replace hx402_0 := (cell_far (p := ⟨gb400, 1, none⟩) (fx hn402_1) (.int .i64 ((rd_T30 t396 x13_1).f1))).trans hx402_0; replace hx402_1 := (cell_far (p := ⟨gb400, 1, none⟩) (fx hn402_1) (.int .i64 ((rd_T30 t396 x13_1).f1))).trans hx402_1; replace hx402_2 := (cell_far (p := ⟨gb400, 1, none⟩) (fx hn402_1) (.int .i64 ((rd_T30 t396 x13_1).f1))).trans hx402_2; (try have hy402_0 := fun (n_ : Nat) => (show ((((w17.drewN n_).setCell ⟨gb400, 0, none⟩ (.int .i64 ((rd_T30 t396 x13_1).f0))).setCell ⟨gb400, 1, none⟩ (.int .i64 ((rd_T30 t396 x13_1).f1)))).cell? _ = some _ from hx402_0)); (try have hy402_1 := fun (n_ : Nat) => (show ((((w17.drewN n_).setCell ⟨gb400, 0, none⟩ (.int .i64 ((rd_T30 t396 x13_1).f0))).setCell ⟨gb400, 1, none⟩ (.int .i64 ((rd_T30 t396 x13_1).f1)))).cell? _ = some _ from hx402_1)); (try have hy402_2 := fun (n_ : Nat) => (show ((((w17.drewN n_).setCell ⟨gb400, 0, none⟩ (.int .i64 ((rd_T30 t396 x13_1).f0))).setCell ⟨gb400, 1, none⟩ (.int .i64 ((rd_T30 t396 x13_1).f1)))).cell? _ = some _ from hx402_2)); clear hn402_0; clear hn402_1; replace p402 := eq_true p402; replace q402 := eq_true q402) | ((with_reducible refine gate_builtin (b := .append) (xs := #[.tmp 29, .tmp 31]) rfl ?_); at_builtin; refine Kd.R_append (Kd.int .i64) (w0 := w) w.heap.size rfl (.tmp 29) (.tmp 31) 22 3 (.int .i64 0) 8 rfl Tryz.underlying22 info3 rfl (by decide) (by omega) u7 x7_1 x13_1 [.int .i64 x13_1] (fun _ => True) (fun _ => False) rfl (by first | (go_simp; done) | (go_simp; rfl)) ?aP (fun _ hk => hk.elim) ?aF ?aO ?aB ?aS ?aL ?_; (case aP => exact rfl); (case aB => exact uB); (case aF => exact (fun _ _ => trivial)); (case aO => exact (by refine uR ?_; exact Kd.R_mono (Kd.R_far (p := ⟨gb400, 1, none⟩) (Kd.R_far (p := ⟨gb400, 0, none⟩) (Kd.R_types HO_7.out BK400.out (by decide)) (fun _ hk => hk.2) (.int .i64 ((rd_T30 t396 x13_1).f0))) (fun _ hk => hk.2) (.int .i64 ((rd_T30 t396 x13_1).f1))) (fun _ hk => trivial))); (case aS => exact (below_size uB)); (case aL => have := LMc16.out; omega); intro v404 w20 ho hb hg hat; rw [← Ny403.out] at ho; replace HO_11 := Aside0.mk (Kd.R_over' (by refine uR ?_; exact (Kd.R_mono (Kd.R_far (p := ⟨gb400, 1, none⟩) (Kd.R_far (p := ⟨gb400, 0, none⟩) (Kd.R_mono HO_11.out (fun k_ hk => (⟨hk, hk.2⟩ : _ ∧ k_ ≠ gb400))) (fun _ hk => hk.2) (.int .i64 ((rd_T30 t396 x13_1).f0))) (fun _ hk => hk.2) (.int .i64 ((rd_T30 t396 x13_1).f1))) (fun _ h_ => h_.1))) (Kd.R_typed (by refine uR ?_; exact (Kd.R_mono (Kd.R_far (p := ⟨gb400, 1, none⟩) (Kd.R_far (p := ⟨gb400, 0, none⟩) (Kd.R_types HO_7.out BK400.out (by decide)) (fun _ hk => hk.2) (.int .i64 ((rd_T30 t396 x13_1).f0))) (fun _ hk => hk.2) (.int .i64 ((rd_T30 t396 x13_1).f1))) (fun _ h_ => h_.1)))) (by decide) hg); replace BK395 := Aside0.mk (blk_grown (g := gb395) (o := .cells #[.int .i64 a0_0, .int .i64 a0_1, .slice A0_2 l0_2.length c0_2, .slice A0_3 l0_3.length c0_3] 78 (0, 0)) (by refine uK ?_; refine blk_far ?_ NB395_400.out _; refine uK ?_; refine blk_far ?_ NB395_400.out _; refine uK ?_; exact BK395.out) hg (Kd.R_ne HO_7.out BK395.out (by decide))); replace BK400 := Aside0.mk (blk_grown (g := gb400) (o := .cells #[.int .i64 ((rd_T30 t396 x13_1).f0), .int .i64 ((rd_T30 t396 x13_1).f1)] 30 (0, 0)) (by refine uK ?_; refine blk_put (cs := #[.int .i64 ((rd_T30 t396 x13_1).f0), .int .i64 0]) ?_ 1 _ rfl; refine uK ?_; refine blk_put (cs := #[.int .i64 0, .int .i64 0]) ?_ 0 _ rfl; refine uK ?_; exact BK400.out) hg (Kd.R_ne HO_7.out BK400.out (by decide))); have HO405 := Aside0.mk (ho); replace HB := Aside0.mk (hb); clear HO_7; clear ho hb hg hat)); try go_wp2_with (first | ((with_reducible refine gate_dst (N := 9) rfl ?_); refine bxe 9 #[.int .i64 0, .int .i64 0] 30 ?_; intro gb400 hg w17 hbox hb; have GW400 := gw hg; have GE400 := gw hg; have NB395_400 := nb BK395 hg; have NB400_395 := nc BK395 hg; replace HO_7 := Aside0.mk (Kd.R_below (uR HO_7.out) hb); replace HO_11 := rE HO_11 hg hb; replace BK395 := Aside0.mk (blk_below (uK BK395.out) hb); have BK400 := Aside0.mk (hbox); replace HB := Aside0.mk (below_step uB hb); clear hb hbox hg; have hnb18 := NB400_395.out; have hnc18 := NB395_400.out; obtain ⟨hcz19_0, hcz19_1⟩ := cz2 BK400.out; obtain ⟨hfz19_0, hfz19_1⟩ := fz2 BK400.out; have p401 : 0 ≤ (x13_1 : Int) := of_decide_eq_true (by assumption); have q401 : x13_1 < (l2.length : Int) := of_decide_eq_true (by assumption); obtain ⟨ad401, e401, hx401_0⟩ := Kd.at_int HR2.out x13_1 p401 q401; cases e401; have hn401_0 : ad401.block ≠ gb400 := Nat.ne_of_lt (Nat.lt_of_lt_of_le (bl1 hx401_0) GW400.out); have hn401_1 : ad401.block ≠ gb400 := Nat.ne_of_lt (Nat.lt_of_lt_of_le (bl1 hx401_0) GW400.out); replace hx401_0 := hcell HB.out hx401_0; replace hx401_0 := (cell_far (p := ⟨gb400, 0, none⟩) (fx hn401_0) (.int .i64 ((rd_T30 t396 x13_1).f0))).trans hx401_0; replace hx401_0 := (cell_far (p := ⟨gb400, 1, none⟩) (fx hn401_1) (.int .i64 ((rd_T30 t396 x13_1).f1))).trans hx401_0; (try have hy401_0 := fun (n_ : Nat) => (show ((((w17.drewN n_).setCell ⟨gb400, 0, none⟩ (.int .i64 ((rd_T30 t396 x13_1).f0))).setCell ⟨gb400, 1, none⟩ (.int .i64 ((rd_T30 t396 x13_1).f1)))).cell? _ = some _ from hx401_0)); clear hn401_0; clear hn401_1; replace p401 := eq_true p401; replace q401 := eq_true q401; have p402 : 0 ≤ ((rd l2 x13_1) : Int) := of_decide_eq_true (by assumption); have q402 : (rd l2 x13_1) < (l1.length : Int) := of_decide_eq_true (by assumption); obtain ⟨ad402, e402, hx402_0, hx402_1, hx402_2⟩ := at_T123 HR1.out (rd l2 x13_1) p402 q402; cases e402; have hn402_0 : ad402.block ≠ gb400 := Nat.ne_of_lt (Nat.lt_of_lt_of_le (bl1 hx402_0) GW400.out); have hn402_1 : ad402.block ≠ gb400 := Nat.ne_of_lt (Nat.lt_of_lt_of_le (bl1 hx402_0) GW400.out); replace hx402_0 := hcell HB.out hx402_0; replace hx402_1 := hcell HB.out hx402_1; replace hx402_2 := hcell HB.out hx402_2; replace hx402_0 := (cell_far (p := ⟨gb400, 0, none⟩) (fx hn402_0) (.int .i64 ((rd_T30 t396 x13_1).f0))).trans hx402_0; replace hx402_1 := (cell_far (p := ⟨gb400, 0, none⟩) (fx hn402_0) (.int .i64 ((rd_T30 t396 x13_1).f0))).trans hx402_1; replace hx402_2 := (cell_far (p := ⟨gb400, 0, none⟩) (fx hn402_0) (.int .i64 ((rd_T30 t396 x13_1).f0))).trans hx402_2; replace hx402_0 := (cell_far (p := ⟨gb400, 1, none⟩) (fx hn402_1) (.int .i64 ((rd_T30 t396 x13_1).f1))).trans hx402_0; replace hx402_1 := (cell_far (p := ⟨gb400, 1, none⟩) (fx hn402_1) (.int .i64 ((rd_T30 t396 x13_1).f1))).trans hx402_1; replace hx402_2 := (cell_far (p := ⟨gb400, 1, none⟩) (fx hn402_1) (.int .i64 ((rd_T30 t396 x13_1).f1))).trans hx402_2; (try have hy402_0 := fun (n_ : Nat) => (show ((((w17.drewN n_).setCell ⟨gb400, 0, none⟩ (.int .i64 ((rd_T30 t396 x13_1).f0))).setCell ⟨gb400, 1, none⟩ (.int .i64 ((rd_T30 t396 x13_1).f1)))).cell? _ = some _ from hx402_0)); (try have hy402_1 := fun (n_ : Nat) => (show ((((w17.drewN n_).setCell ⟨gb400, 0, none⟩ (.int .i64 ((rd_T30 t396 x13_1).f0))).setCell ⟨gb400, 1, none⟩ (.int .i64 ((rd_T30 t396 x13_1).f1)))).cell? _ = some _ from hx402_1)); (try have hy402_2 := fun (n_ : Nat) => (show ((((w17.drewN n_).setCell ⟨gb400, 0, none⟩ (.int .i64 ((rd_T30 t396 x13_1).f0))).setCell ⟨gb400, 1, none⟩ (.int .i64 ((rd_T30 t396 x13_1).f1)))).cell? _ = some _ from hx402_2)); clear hn402_0; clear hn402_1; replace p402 := eq_true p402; replace q402 := eq_true q402) | ((with_reducible refine gate_builtin (b := .append) (xs := #[.tmp 29, .tmp 31]) rfl ?_); at_builtin; refine Kd.R_append (Kd.int .i64) (w0 := w) w.heap.size rfl (.tmp 29) (.tmp 31) 22 3 (.int .i64 0) 8 rfl Tryz.underlying22 info3 rfl (by decide) (by omega) u7 x7_1 x13_1 [.int .i64 x13_1] (fun _ => True) (fun _ => False) rfl (by first | (go_simp; done) | (go_simp; rfl)) ?aP (fun _ hk => hk.elim) ?aF ?aO ?aB ?aS ?aL ?_; (case aP => exact rfl); (case aB => exact uB); (case aF => exact (fun _ _ => trivial)); (case aO => exact (by refine uR ?_; exact Kd.R_mono (Kd.R_far (p := ⟨gb400, 1, none⟩) (Kd.R_far (p := ⟨gb400, 0, none⟩) (Kd.R_types HO_7.out BK400.out (by decide)) (fun _ hk => hk.2) (.int .i64 ((rd_T30 t396 x13_1).f0))) (fun _ hk => hk.2) (.int .i64 ((rd_T30 t396 x13_1).f1))) (fun _ hk => trivial))); (case aS => exact (below_size uB)); (case aL => have := LMc16.out; omega); intro v404 w20 ho hb hg hat; rw [← Ny403.out] at ho; replace HO_11 := Aside0.mk (Kd.R_over' (by refine uR ?_; exact (Kd.R_mono (Kd.R_far (p := ⟨gb400, 1, none⟩) (Kd.R_far (p := ⟨gb400, 0, none⟩) (Kd.R_mono HO_11.out (fun k_ hk => (⟨hk, hk.2⟩ : _ ∧ k_ ≠ gb400))) (fun _ hk => hk.2) (.int .i64 ((rd_T30 t396 x13_1).f0))) (fun _ hk => hk.2) (.int .i64 ((rd_T30 t396 x13_1).f1))) (fun _ h_ => h_.1))) (Kd.R_typed (by refine uR ?_; exact (Kd.R_mono (Kd.R_far (p := ⟨gb400, 1, none⟩) (Kd.R_far (p := ⟨gb400, 0, none⟩) (Kd.R_types HO_7.out BK400.out (by decide)) (fun _ hk => hk.2) (.int .i64 ((rd_T30 t396 x13_1).f0))) (fun _ hk => hk.2) (.int .i64 ((rd_T30 t396 x13_1).f1))) (fun _ h_ => h_.1)))) (by decide) hg); replace BK395 := Aside0.mk (blk_grown (g := gb395) (o := .cells #[.int .i64 a0_0, .int .i64 a0_1, .slice A0_2 l0_2.length c0_2, .slice A0_3 l0_3.length c0_3] 78 (0, 0)) (by refine uK ?_; refine blk_far ?_ NB395_400.out _; refine uK ?_; refine blk_far ?_ NB395_400.out _; refine uK ?_; exact BK395.out) hg (Kd.R_ne HO_7.out BK395.out (by decide))); replace BK400 := Aside0.mk (blk_grown (g := gb400) (o := .cells #[.int .i64 ((rd_T30 t396 x13_1).f0), .int .i64 ((rd_T30 t396 x13_1).f1)] 30 (0, 0)) (by refine uK ?_; refine blk_put (cs := #[.int .i64 ((rd_T30 t396 x13_1).f0), .int .i64 0]) ?_ 1 _ rfl; refine uK ?_; refine blk_put (cs := #[.int .i64 0, .int .i64 0]) ?_ 0 _ rfl; refine uK ?_; exact BK400.out) hg (Kd.R_ne HO_7.out BK400.out (by decide))); have HO405 := Aside0.mk (ho); replace HB := Aside0.mk (hb); clear HO_7; clear ho hb hg hat)))
     go_roundg k1
     case measure => have := HK1.out; omega
     case rel => exact ⟨(y403), (wrap64 (x13_1 + 1)), u0, H', ⟨by have := HK1.out; omega⟩, ⟨uR HO405.out⟩, ⟨by refine uR ?_; exact Kd.R_mono HO_11.out (fun _ hk => trivial)⟩, ⟨uK BK395.out⟩, ⟨uB⟩⟩
    ·rw [if_neg c15] at H; replace c15 := decide_eq_false c15; have H' := Aside0.mk H; clear H; have p399 : 0 ≤ (x13_1 : Int) := of_decide_eq_true (by assumption); have q399 : x13_1 < (t396.length : Int) := of_decide_eq_true (by assumption); obtain ⟨ad399, e399, hx399_0, hx399_1⟩ := at_T30 (Kd.R_reads' HO_11.out).2.2 x13_1 p399 q399
     cases e399
     replace p399 := eq_true p399; replace q399 := eq_true q399
     go_wp2_with (first | ((with_reducible refine gate_dst (N := 9) rfl ?_); refine bxe 9 #[.int .i64 0, .int .i64 0] 30 ?_; intro gb400 hg w21 hbox hb; have GW400 := gw hg; have GE400 := gw hg; have NB395_400 := nb BK395 hg; have NB400_395 := nc BK395 hg; replace HO_7 := Aside0.mk (Kd.R_below (uR HO_7.out) hb); replace HO_11 := rE HO_11 hg hb; replace BK395 := Aside0.mk (blk_below (uK BK395.out) hb); have BK400 := Aside0.mk (hbox); replace HB := Aside0.mk (below_step uB hb); clear hb hbox hg; have hnb22 := NB400_395.out; have hnc22 := NB395_400.out; obtain ⟨hcz23_0, hcz23_1⟩ := cz2 BK400.out; obtain ⟨hfz23_0, hfz23_1⟩ := fz2 BK400.out; have p401 : 0 ≤ (x13_1 : Int) := of_decide_eq_true (by assumption); have q401 : x13_1 < (l2.length : Int) := of_decide_eq_true (by assumption); obtain ⟨ad401, e401, hx401_0⟩ := Kd.at_int HR2.out x13_1 p401 q401; cases e401; have hn401_0 : ad401.block ≠ gb400 := Nat.ne_of_lt (Nat.lt_of_lt_of_le (bl1 hx401_0) GW400.out); have hn401_1 : ad401.block ≠ gb400 := Nat.ne_of_lt (Nat.lt_of_lt_of_le (bl1 hx401_0) GW400.out); replace hx401_0 := hcell HB.out hx401_0; replace hx401_0 := (cell_far (p := ⟨gb400, 0, none⟩) (fx hn401_0) (.int .i64 ((rd_T30 t396 x13_1).f0))).trans hx401_0; replace hx401_0 := (cell_far (p := ⟨gb400, 1, none⟩) (fx hn401_1) (.int .i64 ((rd_T30 t396 x13_1).f1))).trans hx401_0; (try have hy401_0 := fun (n_ : Nat) => (show ((((w21.drewN n_).setCell ⟨gb400, 0, none⟩ (.int .i64 ((rd_T30 t396 x13_1).f0))).setCell ⟨gb400, 1, none⟩ (.int .i64 ((rd_T30 t396 x13_1).f1)))).cell? _ = some _ from hx401_0)); clear hn401_0; clear hn401_1; replace p401 := eq_true p401; replace q401 := eq_true q401; have p402 : 0 ≤ ((rd l2 x13_1) : Int) := of_decide_eq_true (by assumption); have q402 : (rd l2 x13_1) < (l1.length : Int) := of_decide_eq_true (by assumption); obtain ⟨ad402, e402, hx402_0, hx402_1, hx402_2⟩ := at_T123 HR1.out (rd l2 x13_1) p402 q402; cases e402; have hn402_0 : ad402.block ≠ gb400 := Nat.ne_of_lt (Nat.lt_of_lt_of_le (bl1 hx402_0) GW400.out); have hn402_1 : ad402.block ≠ gb400 := Nat.ne_of_lt (Nat.lt_of_lt_of_le (bl1 hx402_0) GW400.out); replace hx402_0 := hcell HB.out hx402_0; replace hx402_1 := hcell HB.out hx402_1; replace hx402_2 := hcell HB.out hx402_2; replace hx402_0 := (cell_far (p := ⟨gb400, 0, none⟩) (fx hn402_0) (.int .i64 ((rd_T30 t396 x13_1).f0))).trans hx402_0; replace hx402_1 := (cell_far (p := ⟨gb400, 0, none⟩) (fx hn402_0) (.int .i64 ((rd_T30 t396 x13_1).f0))).trans hx402_1; replace hx402_2 := (cell_far (p := ⟨gb400, 0, none⟩) (fx hn402_0) (.int .i64 ((rd_T30 t396 x13_1).f0))).trans hx402_2; replace hx402_0 := (cell_far (p := ⟨gb400, 1, none⟩) (fx hn402_1) (.int .i64 ((rd_T30 t396 x13_1).f1))).trans hx402_0; replace hx402_1 := (cell_far (p := ⟨gb400, 1, none⟩) (fx hn402_1) (.int .i64 ((rd_T30 t396 x13_1).f1))).trans hx402_1; replace hx402_2 := (cell_far (p := ⟨gb400, 1, none⟩) (fx hn402_1) (.int .i64 ((rd_T30 t396 x13_1).f1))).trans hx402_2; (try have hy402_0 := fun (n_ : Nat) => (show ((((w21.drewN n_).setCell ⟨gb400, 0, none⟩ (.int .i64 ((rd_T30 t396 x13_1).f0))).setCell ⟨gb400, 1, none⟩ (.int .i64 ((rd_T30 t396 x13_1).f1)))).cell? _ = some _ from hx402_0)); (try have hy402_1 := fun (n_ : Nat) => (show ((((w21.drewN n_).setCell ⟨gb400, 0, none⟩ (.int .i64 ((rd_T30 t396 x13_1).f0))).setCell ⟨gb400, 1, none⟩ (.int .i64 ((rd_T30 t396 x13_1).f1)))).cell? _ = some _ from hx402_1)); (try have hy402_2 := fun (n_ : Nat) => (show ((((w21.drewN n_).setCell ⟨gb400, 0, none⟩ (.int .i64 ((rd_T30 t396 x13_1).f0))).setCell ⟨gb400, 1, none⟩ (.int .i64 ((rd_T30 t396 x13_1).f1)))).cell? _ = some _ from hx402_2)); clear hn402_0; clear hn402_1; replace p402 := eq_true p402; replace q402 := eq_true q402))
     repeat (go_quiet (first | ((with_reducible refine gate_dst (N := 9) rfl ?_); refine bxe 9 #[.int .i64 0, .int .i64 0] 30 ?_; intro gb400 hg w21 hbox hb; have GW400 := gw hg; have GE400 := gw hg; have NB395_400 := nb BK395 hg; have NB400_395 := nc BK395 hg; replace HO_7 := Aside0.mk (Kd.R_below (uR HO_7.out) hb); replace HO_11 := rE HO_11 hg hb; replace BK395 := Aside0.mk (blk_below (uK BK395.out) hb); have BK400 := Aside0.mk (hbox); replace HB := Aside0.mk (below_step uB hb); clear hb hbox hg; have hnb22 := NB400_395.out; have hnc22 := NB395_400.out; obtain ⟨hcz23_0, hcz23_1⟩ := cz2 BK400.out; obtain ⟨hfz23_0, hfz23_1⟩ := fz2 BK400.out; have p401 : 0 ≤ (x13_1 : Int) := of_decide_eq_true (by assumption); have q401 : x13_1 < (l2.length : Int) := of_decide_eq_true (by assumption); obtain ⟨ad401, e401, hx401_0⟩ := Kd.at_int HR2.out x13_1 p401 q401; cases e401; have hn401_0 : ad401.block ≠ gb400 := Nat.ne_of_lt (Nat.lt_of_lt_of_le (bl1 hx401_0) GW400.out); have hn401_1 : ad401.block ≠ gb400 := Nat.ne_of_lt (Nat.lt_of_lt_of_le (bl1 hx401_0) GW400.out); replace hx401_0 := hcell HB.out hx401_0; replace hx401_0 := (cell_far (p := ⟨gb400, 0, none⟩) (fx hn401_0) (.int .i64 ((rd_T30 t396 x13_1).f0))).trans hx401_0; replace hx401_0 := (cell_far (p := ⟨gb400, 1, none⟩) (fx hn401_1) (.int .i64 ((rd_T30 t396 x13_1).f1))).trans hx401_0; (try have hy401_0 := fun (n_ : Nat) => (show ((((w21.drewN n_).setCell ⟨gb400, 0, none⟩ (.int .i64 ((rd_T30 t396 x13_1).f0))).setCell ⟨gb400, 1, none⟩ (.int .i64 ((rd_T30 t396 x13_1).f1)))).cell? _ = some _ from hx401_0)); clear hn401_0; clear hn401_1; replace p401 := eq_true p401; replace q401 := eq_true q401; have p402 : 0 ≤ ((rd l2 x13_1) : Int) := of_decide_eq_true (by assumption); have q402 : (rd l2 x13_1) < (l1.length : Int) := of_decide_eq_true (by assumption); obtain ⟨ad402, e402, hx402_0, hx402_1, hx402_2⟩ := at_T123 HR1.out (rd l2 x13_1) p402 q402; cases e402; have hn402_0 : ad402.block ≠ gb400 := Nat.ne_of_lt (Nat.lt_of_lt_of_le (bl1 hx402_0) GW400.out); have hn402_1 : ad402.block ≠ gb400 := Nat.ne_of_lt (Nat.lt_of_lt_of_le (bl1 hx402_0) GW400.out); replace hx402_0 := hcell HB.out hx402_0; replace hx402_1 := hcell HB.out hx402_1; replace hx402_2 := hcell HB.out hx402_2; replace hx402_0 := (cell_far (p := ⟨gb400, 0, none⟩) (fx hn402_0) (.int .i64 ((rd_T30 t396 x13_1).f0))).trans hx402_0; replace hx402_1 := (cell_far (p := ⟨gb400, 0, none⟩) (fx hn402_0) (.int .i64 ((rd_T30 t396 x13_1).f0))).trans hx402_1; replace hx402_2 := (cell_far (p := ⟨gb400, 0, none⟩) (fx hn402_0) (.int .i64 ((rd_T30 t396 x13_1).f0))).trans hx402_2; replace hx402_0 := (cell_far (p := ⟨gb400, 1, none⟩) (fx hn402_1) (.int .i64 ((rd_T30 t396 x13_1).f1))).trans hx402_0; replace hx402_1 := (cell_far (p := ⟨gb400, 1, none⟩) (fx hn402_1) (.int .i64 ((rd_T30 t396 x13_1).f1))).trans hx402_1; replace hx402_2 := (cell_far (p := ⟨gb400, 1, none⟩) (fx hn402_1) (.int .i64 ((rd_T30 t396 x13_1).f1))).trans hx402_2; (try have hy402_0 := fun (n_ : Nat) => (show ((((w21.drewN n_).setCell ⟨gb400, 0, none⟩ (.int .i64 ((rd_T30 t396 x13_1).f0))).setCell ⟨gb400, 1, none⟩ (.int .i64 ((rd_T30 t396 x13_1).f1)))).cell? _ = some _ from hx402_0)); (try have hy402_1 := fun (n_ : Nat) => (show ((((w21.drewN n_).setCell ⟨gb400, 0, none⟩ (.int .i64 ((rd_T30 t396 x13_1).f0))).setCell ⟨gb400, 1, none⟩ (.int .i64 ((rd_T30 t396 x13_1).f1)))).cell? _ = some _ from hx402_1)); (try have hy402_2 := fun (n_ : Nat) => (show ((((w21.drewN n_).setCell ⟨gb400, 0, none⟩ (.int .i64 ((rd_T30 t396 x13_1).f0))).setCell ⟨gb400, 1, none⟩ (.int .i64 ((rd_T30 t396 x13_1).f1)))).cell? _ = some _ from hx402_2)); clear hn402_0; clear hn402_1; replace p402 := eq_true p402; replace q402 := eq_true q402)); try go_wp2_with (first | ((with_reducible refine gate_dst (N := 9) rfl ?_); refine bxe 9 #[.int .i64 0, .int .i64 0] 30 ?_; intro gb400 hg w21 hbox hb; have GW400 := gw hg; have GE400 := gw hg; have NB395_400 := nb BK395 hg; have NB400_395 := nc BK395 hg; replace HO_7 := Aside0.mk (Kd.R_below (uR HO_7.out) hb); replace HO_11 := rE HO_11 hg hb; replace BK395 := Aside0.mk (blk_below (uK BK395.out) hb); have BK400 := Aside0.mk (hbox); replace HB := Aside0.mk (below_step uB hb); clear hb hbox hg; have hnb22 := NB400_395.out; have hnc22 := NB395_400.out; obtain ⟨hcz23_0, hcz23_1⟩ := cz2 BK400.out; obtain ⟨hfz23_0, hfz23_1⟩ := fz2 BK400.out; have p401 : 0 ≤ (x13_1 : Int) := of_decide_eq_true (by assumption); have q401 : x13_1 < (l2.length : Int) := of_decide_eq_true (by assumption); obtain ⟨ad401, e401, hx401_0⟩ := Kd.at_int HR2.out x13_1 p401 q401; cases e401; have hn401_0 : ad401.block ≠ gb400 := Nat.ne_of_lt (Nat.lt_of_lt_of_le (bl1 hx401_0) GW400.out); have hn401_1 : ad401.block ≠ gb400 := Nat.ne_of_lt (Nat.lt_of_lt_of_le (bl1 hx401_0) GW400.out); replace hx401_0 := hcell HB.out hx401_0; replace hx401_0 := (cell_far (p := ⟨gb400, 0, none⟩) (fx hn401_0) (.int .i64 ((rd_T30 t396 x13_1).f0))).trans hx401_0; replace hx401_0 := (cell_far (p := ⟨gb400, 1, none⟩) (fx hn401_1) (.int .i64 ((rd_T30 t396 x13_1).f1))).trans hx401_0; (try have hy401_0 := fun (n_ : Nat) => (show ((((w21.drewN n_).setCell ⟨gb400, 0, none⟩ (.int .i64 ((rd_T30 t396 x13_1).f0))).setCell ⟨gb400, 1, none⟩ (.int .i64 ((rd_T30 t396 x13_1).f1)))).cell? _ = some _ from hx401_0)); clear hn401_0; clear hn401_1; replace p401 := eq_true p401; replace q401 := eq_true q401; have p402 : 0 ≤ ((rd l2 x13_1) : Int) := of_decide_eq_true (by assumption); have q402 : (rd l2 x13_1) < (l1.length : Int) := of_decide_eq_true (by assumption); obtain ⟨ad402, e402, hx402_0, hx402_1, hx402_2⟩ := at_T123 HR1.out (rd l2 x13_1) p402 q402; cases e402; have hn402_0 : ad402.block ≠ gb400 := Nat.ne_of_lt (Nat.lt_of_lt_of_le (bl1 hx402_0) GW400.out); have hn402_1 : ad402.block ≠ gb400 := Nat.ne_of_lt (Nat.lt_of_lt_of_le (bl1 hx402_0) GW400.out); replace hx402_0 := hcell HB.out hx402_0; replace hx402_1 := hcell HB.out hx402_1; replace hx402_2 := hcell HB.out hx402_2; replace hx402_0 := (cell_far (p := ⟨gb400, 0, none⟩) (fx hn402_0) (.int .i64 ((rd_T30 t396 x13_1).f0))).trans hx402_0; replace hx402_1 := (cell_far (p := ⟨gb400, 0, none⟩) (fx hn402_0) (.int .i64 ((rd_T30 t396 x13_1).f0))).trans hx402_1; replace hx402_2 := (cell_far (p := ⟨gb400, 0, none⟩) (fx hn402_0) (.int .i64 ((rd_T30 t396 x13_1).f0))).trans hx402_2; replace hx402_0 := (cell_far (p := ⟨gb400, 1, none⟩) (fx hn402_1) (.int .i64 ((rd_T30 t396 x13_1).f1))).trans hx402_0; replace hx402_1 := (cell_far (p := ⟨gb400, 1, none⟩) (fx hn402_1) (.int .i64 ((rd_T30 t396 x13_1).f1))).trans hx402_1; replace hx402_2 := (cell_far (p := ⟨gb400, 1, none⟩) (fx hn402_1) (.int .i64 ((rd_T30 t396 x13_1).f1))).trans hx402_2; (try have hy402_0 := fun (n_ : Nat) => (show ((((w21.drewN n_).setCell ⟨gb400, 0, none⟩ (.int .i64 ((rd_T30 t396 x13_1).f0))).setCell ⟨gb400, 1, none⟩ (.int .i64 ((rd_T30 t396 x13_1).f1)))).cell? _ = some _ from hx402_0)); (try have hy402_1 := fun (n_ : Nat) => (show ((((w21.drewN n_).setCell ⟨gb400, 0, none⟩ (.int .i64 ((rd_T30 t396 x13_1).f0))).setCell ⟨gb400, 1, none⟩ (.int .i64 ((rd_T30 t396 x13_1).f1)))).cell? _ = some _ from hx402_1)); (try have hy402_2 := fun (n_ : Nat) => (show ((((w21.drewN n_).setCell ⟨gb400, 0, none⟩ (.int .i64 ((rd_T30 t396 x13_1).f0))).setCell ⟨gb400, 1, none⟩ (.int .i64 ((rd_T30 t396 x13_1).f1)))).cell? _ = some _ from hx402_2)); clear hn402_0; clear hn402_1; replace p402 := eq_true p402; replace q402 := eq_true q402)))
     go_roundg k1
     case measure => have := HK1.out; omega
     case rel => exact ⟨(x7_1), (wrap64 (x13_1 + 1)), u0, H', ⟨by have := HK1.out; omega⟩, ⟨by refine uR ?_; exact Kd.R_mono (Kd.R_far (p := ⟨gb400, 1, none⟩) (Kd.R_far (p := ⟨gb400, 0, none⟩) (Kd.R_types HO_7.out BK400.out (by decide)) (fun _ hk => hk.2) (.int .i64 ((rd_T30 t396 x13_1).f0))) (fun _ hk => hk.2) (.int .i64 ((rd_T30 t396 x13_1).f1))) (fun _ hk => trivial)⟩, ⟨by refine uR ?_; exact Kd.R_mono (Kd.R_far (p := ⟨gb400, 1, none⟩) (Kd.R_far (p := ⟨gb400, 0, none⟩) (Kd.R_mono HO_11.out (fun k_ hk => (⟨hk, hk.2⟩ : _ ∧ k_ ≠ gb400))) (fun _ hk => hk.2) (.int .i64 ((rd_T30 t396 x13_1).f0))) (fun _ hk => hk.2) (.int .i64 ((rd_T30 t396 x13_1).f1))) (fun _ hk => trivial)⟩, ⟨by refine uK ?_; refine blk_far ?_ NB395_400.out _; refine uK ?_; refine blk_far ?_ NB395_400.out _; refine uK ?_; exact BK395.out⟩, ⟨uB⟩⟩
   ·rw [if_neg c9] at H; replace c9 := decide_eq_false c9; obtain rfl := Option.some.inj H; go_wp2; (repeat (go_quiet (fail); try go_wp2)); go_ret; exact ⟨_, uE, uR HO_7.out, uB⟩
end Go.Proofs.YtdmdahafiiggiaaGreatDoor.K
end
section
namespace Go.Proofs.YtdmdahafiiggiaaGreatDoor.K
open Go.RowKit Go.Proofs.YtdmdahafiiggiaaGreatDoorW.PrintWords Go.Proofs.YtdmdahafiiggiaaGreatDoorW.PrintLast Go.Proofs.YtdmdahafiiggiaaGreatDoorW.PrintMore
theorem isHeight_any (a b : Int) (w : World) : Calls Tryz.prog 111 #[.agg #[.int .i64 a, .int .i64 b]] w fun e w' => e = .returned (.bool (isSpanB a b 0 1000)) ∧ Below w.heap.size w w' :=
  channel_isHeight.calls a b _ w (by simp [channel_isHeight.f, isSpan_f])
theorem isSiphon1_any (x : S30) (w : World) : Calls Tryz.prog 113 #[.agg #[.int .i64 x.f0, .int .i64 x.f1]] w fun e w' => e = .returned (.bool (!isSpanB x.f0 x.f1 0 1000)) ∧ Below w.heap.size w w' := by
  have hu2 := Tryz.underlying30
  go_enter Tryz.func113, Tryz.ntmps113
  go_wp2_with (go_at_call 111; refine (isHeight_any _ _ _).mono ?_; rintro e w' ⟨rfl, hb⟩)
  go_ret; exact ⟨rfl, below_then ((Below.refl _ _).alloc (Nat.le_refl _) _) (by simp) hb⟩
theorem isSiphon2_any (x : Int) (w : World) : Calls Tryz.prog 114 #[.int .i64 x] w fun e w' => e = .returned (.bool (!inB x 1 100)) ∧ w = w' := by
  go_enter Tryz.func114, Tryz.ntmps114
  go_wp2_with (go_at_call 67; refine (in_any _ _ _ _).mono ?_; rintro e w' ⟨rfl, rfl⟩)
  go_ret; exact ⟨rfl, rfl⟩
def isSiphonB (a b : Int) (pts : List S30) (lens : List Int) : Bool := isSpanB a b 0 1000 && inB pts.length 2 8 && decide ((lens.length : Int) = (pts.length : Int) - 1) && pts.all (fun x => isSpanB x.f0 x.f1 0 1000) && lens.all (fun x => inB x 1 100)
def channel_isSiphon.f (a b : Int) (pts : List S30) (lens : List Int) : Option Bool := if pts.length ≤ 9223372036854775807 ∧ lens.length ≤ 9223372036854775807 then some (isSiphonB a b pts lens) else none
set_option maxRecDepth 100000 in
set_option maxHeartbeats 1000000 in
theorem channel_isSiphon.calls (a0_0 : Int) (a0_1 : Int) (A0_2 : Option Addr) (c0_2 : Nat) (l0_2 : List S30) (A0_3 : Option Addr) (c0_3 : Nat) (l0_3 : List Int) (r : Bool) (w : World) (hr0_2 : Kd.C k30 w A0_2 l0_2.length l0_2) (hc0_2 : l0_2.length ≤ c0_2) (hr0_3 : Kd.C (Kd.int .i64) w A0_3 l0_3.length l0_3) (hc0_3 : l0_3.length ≤ c0_3) (h : channel_isSiphon.f a0_0 a0_1 l0_2 l0_3 = some r) :
    Calls Tryz.prog 87 #[.agg #[.int .i64 a0_0, .int .i64 a0_1, .slice A0_2 l0_2.length c0_2, .slice A0_3 l0_3.length c0_3]] w fun e w' => e = .returned (.bool r) ∧ Below w.heap.size w w' := by
  unfold channel_isSiphon.f at h
  by_cases hl : l0_2.length ≤ 9223372036854775807 ∧ l0_3.length ≤ 9223372036854775807
  case neg => rw [if_neg hl] at h; cases h
  rw [if_pos hl] at h; obtain rfl := Option.some.inj h; clear h; obtain ⟨hl2, hl3⟩ := hl; have hu1 := Tryz.underlying78; have hu2 := Tryz.underlying30; have hmf : ∀ (fn : Fn) (first cap : Array Value) (w : World), (Instr.makeFunc fn first cap).run Tryz.prog w = .ok (.func fn first cap) w := fun _ _ _ _ => rfl; obtain ⟨w1, hw1⟩ : ∃ w1, w.alloc (.cells #[.int .i64 a0_0, .int .i64 a0_1, .slice A0_2 l0_2.length c0_2, .slice A0_3 l0_3.length c0_3] 78) = w1 := ⟨_, rfl⟩; have hB1 : Below w.heap.size w w1 := by rw [← hw1]; exact (Below.refl _ _).alloc (Nat.le_refl _) _
  have hlt : w.heap.size < w1.heap.size := by rw [← hw1]; simp
  have x0 : w1.cell? ⟨w.heap.size, 0, none⟩ = some (.int .i64 a0_0) := by rw [← hw1]; simp [go_sem]
  have x1 : w1.cell? ⟨w.heap.size, 1, none⟩ = some (.int .i64 a0_1) := by rw [← hw1]; simp [go_sem]
  have x2 : w1.cell? ⟨w.heap.size, 2, none⟩ = some (.slice A0_2 l0_2.length c0_2) := by rw [← hw1]; simp [go_sem]
  have x3 : w1.cell? ⟨w.heap.size, 3, none⟩ = some (.slice A0_3 l0_3.length c0_3) := by rw [← hw1]; simp [go_sem]
  have CP : Aside0 (∀ W, Below w1.heap.size w1 W → Calls Tryz.prog 112 #[.slice A0_2 l0_2.length c0_2, .func (.func 113) #[] #[]] W fun e w' => e = .returned (.bool (!l0_2.all (fun x => isSpanB x.f0 x.f1 0 1000))) ∧ Below W.heap.size W w') := ⟨fun W hW => by
    have := contFuncSpan A0_2 c0_2 l0_2 113 #[] (fun x => !isSpanB x.f0 x.f1 0 1000) W (Kd.C_below hr0_2 (below_then hB1 hB1.size hW)) hc0_2 hl2 (enters_of Tryz.func113 (by kernel_rfl) rfl) (fun W' x _ => isSiphon1_any x W')
    rwa [any_not_all] at this⟩
  have CI : Aside0 (∀ W, Below w1.heap.size w1 W → Calls Tryz.prog 90 #[.slice A0_3 l0_3.length c0_3, .func (.func 114) #[] #[]] W fun e w' => e = .returned (.bool (!l0_3.all (fun x => inB x 1 100))) ∧ Below W.heap.size W w') := ⟨fun W hW => by
    have := contFuncInt A0_3 c0_3 l0_3 114 #[] (fun x => !inB x 1 100) W (Kd.C_below hr0_3 (below_then hB1 hB1.size hW)) hc0_3 hl3 (enters_of Tryz.func114 (by kernel_rfl) rfl) (fun W' x _ => (isSiphon2_any x W').mono fun e w' ⟨he, hw⟩ => ⟨he, hw ▸ Below.refl _ _⟩)
    rwa [any_not_all] at this⟩
  clear hr0_2 hr0_3; have n0 : (0 : Int) ≤ (l0_2.length : Int) := by omega
  have n1 : (l0_2.length : Int) ≤ 9223372036854775807 := by omega
  have hcase : isSpanB a0_0 a0_1 0 1000 = false ∨ (isSpanB a0_0 a0_1 0 1000 = true ∧ inB l0_2.length 2 8 = false) ∨ (isSpanB a0_0 a0_1 0 1000 = true ∧ inB l0_2.length 2 8 = true ∧ ¬ ((l0_3.length : Int) = (l0_2.length : Int) - 1)) ∨ (isSpanB a0_0 a0_1 0 1000 = true ∧ inB l0_2.length 2 8 = true ∧ ((l0_3.length : Int) = (l0_2.length : Int) - 1) ∧ l0_2.all (fun x => isSpanB x.f0 x.f1 0 1000) = false) ∨ (isSpanB a0_0 a0_1 0 1000 = true ∧ inB l0_2.length 2 8 = true ∧ ((l0_3.length : Int) = (l0_2.length : Int) - 1) ∧ l0_2.all (fun x => isSpanB x.f0 x.f1 0 1000) = true) := by
    cases isSpanB a0_0 a0_1 0 1000 <;> cases inB l0_2.length 2 8 <;> by_cases h3 : (l0_3.length : Int) = (l0_2.length : Int) - 1 <;> cases l0_2.all (fun x => isSpanB x.f0 x.f1 0 1000) <;> simp [h3]
  have HW1 := Aside0.mk hw1
  rcases hcase with h1 | ⟨h1, h2⟩ | ⟨h1, h2, h3⟩ | ⟨h1, h2, h3, h4⟩ | ⟨h1, h2, h3, h4⟩
  all_goals (try have h3' : ((l0_3.length : Int) == (l0_2.length : Int) - 1) = true := by rw [h3]; simp)
  all_goals (try have h3' : ((l0_3.length : Int) == (l0_2.length : Int) - 1) = false := by rw [beq_eq_false_iff_ne]; exact h3)
  all_goals (try have h3'' : decide ((l0_3.length : Int) = (l0_2.length : Int) - 1) = true := decide_eq_true h3)
  all_goals (try have h3'' : decide ((l0_3.length : Int) = (l0_2.length : Int) - 1) = false := decide_eq_false h3)
  all_goals (try have h3w : wrap64 ((l0_2.length : Int) - 1) = (l0_2.length : Int) - 1 := IntWalk.wrap64_in _ (by omega))
  all_goals
    try rw [h4] at CP
    go_enter Tryz.func87, Tryz.ntmps87
    go_upto_region 1 with (fail)
    try rw [hw1]
    go_wp2_with (first | (go_at_call 111; refine (isHeight_any _ _ _).mono ?_; rintro e w2 ⟨rfl, hb2⟩; have y2 := (hb2.cell (p := ⟨w.heap.size, 2, none⟩) hlt).trans x2; have y3 := (hb2.cell (p := ⟨w.heap.size, 3, none⟩) hlt).trans x3) | (go_at_call 67; refine (in_any _ _ _ _).mono ?_; rintro e w' ⟨rfl, rfl⟩) | (go_at_call 112; refine (CP.out _ hb2).mono ?_; rintro e w3 ⟨rfl, hb3⟩; have z3 := (hb3.cell (p := ⟨w.heap.size, 3, none⟩) (Nat.lt_of_lt_of_le hlt hb2.size)).trans y3) | (go_at_call 90; refine (CI.out _ (below_step hb2 hb3)).mono ?_; rintro e w4 ⟨rfl, hb4⟩))
    go_ret
    first
      | exact ⟨by simp [isSiphonB, *], below_step hB1 (below_step hb2 (below_step hb3 hb4))⟩
      | exact ⟨by simp [isSiphonB, *], below_step hB1 (below_step hb2 hb3)⟩
      | exact ⟨by simp [isSiphonB, *], below_step hB1 hb2⟩
def classB (c : S123) : Bool := inB c.f0 1 1000 && inB c.f1 0 100 && inB c.f2 0 1000
theorem areClasses1_any (x : S123) (w : World) : Calls Tryz.prog 115 #[.agg #[.int .i64 x.f0, .int .i64 x.f1, .int .i64 x.f2]] w fun e w' => e = .returned (.bool (!classB x)) ∧ Below w.heap.size w w' := by
  have hu2 := Tryz.underlying123; obtain ⟨f0, f1, f2⟩ := x
  dsimp only
  have hcase : inB f0 1 1000 = false ∨ (inB f0 1 1000 = true ∧ inB f1 0 100 = false) ∨ (inB f0 1 1000 = true ∧ inB f1 0 100 = true) := by
    cases inB f0 1 1000 <;> cases inB f1 0 100 <;> simp
  rcases hcase with h1 | ⟨h1, h2⟩ | ⟨h1, h2⟩
  all_goals
    go_enter Tryz.func115, Tryz.ntmps115
    go_wp2_with (go_at_call 67; refine (in_any _ _ _ _).mono ?_; rintro e w' ⟨rfl, rfl⟩)
    go_ret; exact ⟨by simp [classB, *], (Below.refl _ _).alloc (Nat.le_refl _) _⟩
def areClassesB (l : List S123) : Bool := inB l.length 1 4 && l.all classB
def channel_areClasses.f (l : List S123) : Option Bool := if l.length ≤ 9223372036854775807 then some (areClassesB l) else none
theorem channel_areClasses.calls (A0 : Option Addr) (c0 : Nat) (l0 : List S123) (r : Bool) (w : World) (hr0 : Kd.C k123 w A0 l0.length l0) (hc0 : l0.length ≤ c0) (h : channel_areClasses.f l0 = some r) :
    Calls Tryz.prog 89 #[.slice A0 l0.length c0] w fun e w' => e = .returned (.bool r) ∧ Below w.heap.size w w' := by
  unfold channel_areClasses.f at h
  by_cases hl : l0.length ≤ 9223372036854775807
  case neg => rw [if_neg hl] at h; cases h
  rw [if_pos hl] at h; obtain rfl := Option.some.inj h; clear h; have hmf : ∀ (fn : Fn) (first cap : Array Value) (w : World), (Instr.makeFunc fn first cap).run Tryz.prog w = .ok (.func fn first cap) w := fun _ _ _ _ => rfl; have CP := contFuncClass A0 c0 l0 115 #[] (fun x => !classB x) w hr0 hc0 hl (enters_of Tryz.func115 (by kernel_rfl) rfl) (fun W' x _ => areClasses1_any x W'); rw [any_not_all] at CP; clear hr0
  cases h1 : inB l0.length 1 4
  all_goals
    go_enter Tryz.func89, Tryz.ntmps89
    go_wp2_with (first | (go_at_call 67; refine (in_any _ _ _ _).mono ?_; rintro e w' ⟨rfl, rfl⟩) | (go_at_call 116; refine CP.mono ?_; rintro e w3 ⟨rfl, hb3⟩))
    go_ret
    first
      | exact ⟨by simp [areClassesB, *], hb3⟩
      | exact ⟨by simp [areClassesB, *], Below.refl _ _⟩
theorem Bursts1_any (x : Int) (B : Nat) (A : Option Addr) (n c : Nat) (hn : n ≤ 4) (W : World) (hcell : W.cell? ⟨B, 0, none⟩ = some (.slice A n c)) :
    Calls Tryz.prog 91 #[.int .i64 x, .pointer (some ⟨B, 0, none⟩)] W fun e w' => e = .returned (.bool (!inB x 0 ((n : Int) - 1))) ∧ W = w' := by
  go_enter Tryz.func91, Tryz.ntmps91
  go_wp2_with (go_at_call 67; refine (in_any _ _ _ _).mono ?_; rintro e w' ⟨rfl, rfl⟩)
  go_ret; exact ⟨rfl, rfl⟩
def choiceB (a b : Int) (pts : List S30) (lens : List Int) (cl : List S123) (ch : List Int) : Bool := isSiphonB a b pts lens && areClassesB cl && decide (ch.length = lens.length) && ch.all (fun c => inB c 0 ((cl.length : Int) - 1))
def channel_Bursts.f (a b : Int) (pts : List S30) (lens : List Int) (cl : List S123) (ch : List Int) : Option (List Int × Int) :=
  if pts.length ≤ 9223372036854775807 ∧ lens.length ≤ 9223372036854775807 ∧ cl.length ≤ 9223372036854775807 ∧ ch.length ≤ 9223372036854775807 then
    if choiceB a b pts lens cl ch = true then (channel_bursts.f 100 a b pts lens cl ch).bind fun l => some (l, 0) else some ([], 2)
  else none
set_option maxRecDepth 100000 in
set_option maxHeartbeats 1000000 in
theorem channel_Bursts.calls (a0_0 : Int) (a0_1 : Int) (A0_2 : Option Addr) (c0_2 : Nat) (l0_2 : List S30) (A0_3 : Option Addr) (c0_3 : Nat) (l0_3 : List Int) (A1 : Option Addr) (c1 : Nat) (l1 : List S123) (A2 : Option Addr) (c2 : Nat) (l2 : List Int) (r1 : List Int) (r2 : Int) (w : World) (hr0_2 : Kd.C k30 w A0_2 l0_2.length l0_2) (hc0_2 : l0_2.length ≤ c0_2) (hr0_3 : Kd.C (Kd.int .i64) w A0_3 l0_3.length l0_3) (hc0_3 : l0_3.length ≤ c0_3) (hr1 : Kd.C k123 w A1 l1.length l1) (hc1 : l1.length ≤ c1) (hr2 : Kd.C (Kd.int .i64) w A2 l2.length l2) (hc2 : l2.length ≤ c2) (h : channel_Bursts.f a0_0 a0_1 l0_2 l0_3 l1 l2 = some (r1, r2)) :
    Calls Tryz.prog 48 #[.agg #[.int .i64 a0_0, .int .i64 a0_1, .slice A0_2 l0_2.length c0_2, .slice A0_3 l0_3.length c0_3], .slice A1 l1.length c1, .slice A2 l2.length c2] w fun e w' => ∃ v0_ : Value, e = .returned (.tuple #[v0_, .int .i64 r2]) ∧ Kd.R (Kd.int .i64) 3 w' w.heap.size (fun _ => True) v0_ r1 ∧ Below w.heap.size w w' := by
  unfold channel_Bursts.f at h
  by_cases hl : l0_2.length ≤ 9223372036854775807 ∧ l0_3.length ≤ 9223372036854775807 ∧ l1.length ≤ 9223372036854775807 ∧ l2.length ≤ 9223372036854775807
  case neg => rw [if_neg hl] at h; cases h
  rw [if_pos hl] at h; have hu1 := Tryz.underlying78; have hmf : ∀ (fn : Fn) (first cap : Array Value) (w : World), (Instr.makeFunc fn first cap).run Tryz.prog w = .ok (.func fn first cap) w := fun _ _ _ _ => rfl; obtain ⟨w1, hw1⟩ : ∃ w1, (w.alloc (.cells #[.int .i64 a0_0, .int .i64 a0_1, .slice A0_2 l0_2.length c0_2, .slice A0_3 l0_3.length c0_3] 78)).alloc (.cells #[.slice A1 l1.length c1] 84) = w1 := ⟨_, rfl⟩; have hB1 : Below w.heap.size w w1 := by rw [← hw1]; exact ((Below.refl _ _).alloc (Nat.le_refl _) _).alloc (by simp) _
  have hlt : w.heap.size + 1 < w1.heap.size := by rw [← hw1]; simp
  have x0 : w1.cell? ⟨w.heap.size, 0, none⟩ = some (.int .i64 a0_0) := by rw [← hw1]; simp [go_sem]
  have x1 : w1.cell? ⟨w.heap.size, 1, none⟩ = some (.int .i64 a0_1) := by rw [← hw1]; simp [go_sem]
  have x2 : w1.cell? ⟨w.heap.size, 2, none⟩ = some (.slice A0_2 l0_2.length c0_2) := by rw [← hw1]; simp [go_sem]
  have x3 : w1.cell? ⟨w.heap.size, 3, none⟩ = some (.slice A0_3 l0_3.length c0_3) := by rw [← hw1]; simp [go_sem]
  have x4 : w1.cell? ⟨w.heap.size + 1, 0, none⟩ = some (.slice A1 l1.length c1) := by rw [← hw1]; simp [go_sem]
  have CS : Aside0 (∀ W, Below w.heap.size w W → Calls Tryz.prog 87 #[.agg #[.int .i64 a0_0, .int .i64 a0_1, .slice A0_2 l0_2.length c0_2, .slice A0_3 l0_3.length c0_3]] W fun e w' => e = .returned (.bool (isSiphonB a0_0 a0_1 l0_2 l0_3)) ∧ Below W.heap.size W w') :=
    ⟨fun W hW => channel_isSiphon.calls a0_0 a0_1 A0_2 c0_2 l0_2 A0_3 c0_3 l0_3 _ W (Kd.C_below hr0_2 hW) hc0_2 (Kd.C_below hr0_3 hW) hc0_3 (by unfold channel_isSiphon.f; rw [if_pos ⟨hl.1, hl.2.1⟩])⟩
  have CC : Aside0 (∀ W, Below w.heap.size w W → Calls Tryz.prog 89 #[.slice A1 l1.length c1] W fun e w' => e = .returned (.bool (areClassesB l1)) ∧ Below W.heap.size W w') :=
    ⟨fun W hW => channel_areClasses.calls A1 c1 l1 _ W (Kd.C_below hr1 hW) hc1 (by unfold channel_areClasses.f; rw [if_pos hl.2.2.1])⟩
  have CI : Aside0 (areClassesB l1 = true → ∀ W, Below w.heap.size w W → W.cell? ⟨w.heap.size + 1, 0, none⟩ = some (.slice A1 l1.length c1) → w.heap.size + 1 < W.heap.size → Calls Tryz.prog 90 #[.slice A2 l2.length c2, .func (.func 91) #[] #[.pointer (some ⟨w.heap.size + 1, 0, none⟩)]] W fun e w' => e = .returned (.bool (!l2.all (fun c => inB c 0 ((l1.length : Int) - 1)))) ∧ Below W.heap.size W w') := ⟨fun hcl W hW hcell hsz => by
    have := contFuncInt A2 c2 l2 91 #[.pointer (some ⟨w.heap.size + 1, 0, none⟩)] (fun c => !inB c 0 ((l1.length : Int) - 1)) W (Kd.C_below hr2 hW) hc2 hl.2.2.2 (enters_of Tryz.func91 (by kernel_rfl) rfl)
      (fun W' x hW' => (Bursts1_any x (w.heap.size + 1) A1 l1.length c1 (by simp [areClassesB, inB] at hcl; omega) W' ((hW'.cell (p := ⟨w.heap.size + 1, 0, none⟩) hsz).trans hcell)).mono fun e w' ⟨he, hw⟩ => ⟨he, hw ▸ Below.refl _ _⟩)
    rwa [any_not_all] at this⟩
  have CB : Aside0 (∀ W l, Below w.heap.size w W → channel_bursts.f 100 a0_0 a0_1 l0_2 l0_3 l1 l2 = some l → Calls Tryz.prog 92 #[.agg #[.int .i64 a0_0, .int .i64 a0_1, .slice A0_2 l0_2.length c0_2, .slice A0_3 l0_3.length c0_3], .slice A1 l1.length c1, .slice A2 l2.length c2] W fun e w' => ∃ v0_ : Value, e = .returned v0_ ∧ Kd.R (Kd.int .i64) 3 w' W.heap.size (fun _ => True) v0_ l ∧ Below W.heap.size W w') :=
    ⟨fun W l hW hl => channel_bursts.calls 100 a0_0 a0_1 A0_2 c0_2 l0_2 A0_3 c0_3 l0_3 A1 c1 l1 A2 c2 l2 l W (Kd.C_below hr0_2 hW) hc0_2 (Kd.C_below hr0_3 hW) hc0_3 (Kd.C_below hr1 hW) hc1 (Kd.C_below hr2 hW) hc2 hl⟩
  clear hr0_2 hr0_3 hr1 hr2; have HW1 := Aside0.mk hw1
  have hcase : (isSiphonB a0_0 a0_1 l0_2 l0_3 = false) ∨ (isSiphonB a0_0 a0_1 l0_2 l0_3 = true ∧ areClassesB l1 = false) ∨ (isSiphonB a0_0 a0_1 l0_2 l0_3 = true ∧ areClassesB l1 = true ∧ ¬ l2.length = l0_3.length) ∨ (isSiphonB a0_0 a0_1 l0_2 l0_3 = true ∧ areClassesB l1 = true ∧ l2.length = l0_3.length ∧ l2.all (fun c => inB c 0 ((l1.length : Int) - 1)) = false) ∨ (isSiphonB a0_0 a0_1 l0_2 l0_3 = true ∧ areClassesB l1 = true ∧ l2.length = l0_3.length ∧ l2.all (fun c => inB c 0 ((l1.length : Int) - 1)) = true) := by
    cases isSiphonB a0_0 a0_1 l0_2 l0_3 <;> cases areClassesB l1 <;> by_cases h3 : l2.length = l0_3.length <;> cases l2.all (fun c => inB c 0 ((l1.length : Int) - 1)) <;> simp [h3]
  have hcb : ∀ (p : Prop), choiceB a0_0 a0_1 l0_2 l0_3 l1 l2 = (isSiphonB a0_0 a0_1 l0_2 l0_3 && areClassesB l1 && decide (l2.length = l0_3.length) && l2.all (fun c => inB c 0 ((l1.length : Int) - 1))) := fun _ => rfl; have HH := Aside0.mk h; clear h
  rcases hcase with h1 | ⟨h1, h2⟩ | ⟨h1, h2, h3⟩ | ⟨h1, h2, h3, h4⟩ | ⟨h1, h2, h3, h4⟩
  all_goals (try have h3' : ((l2.length : Int) == (l0_3.length : Int)) = true := by rw [h3]; simp)
  all_goals (try have h3' : ((l2.length : Int) == (l0_3.length : Int)) = false := by rw [beq_eq_false_iff_ne]; omega)
  all_goals (try have h3e : ((l2.length : Int) = (l0_3.length : Int)) = True := eq_true (by omega))
  all_goals (try have h3e : ((l2.length : Int) = (l0_3.length : Int)) = False := eq_false (by omega))
  all_goals (try have h3'' : (l2.length == l0_3.length) = true := by rw [h3]; simp)
  all_goals (try have h3'' : (l2.length == l0_3.length) = false := by rw [beq_eq_false_iff_ne]; exact h3)
  case inr.inr.inr.inr =>
    have h := HH.out; rw [if_pos (by simp [choiceB, h1, h2, h3, h4])] at h; obtain ⟨l, hl1, h⟩ := Option.bind_eq_some_iff.mp h; obtain ⟨rfl, rfl⟩ := Prod.mk.inj (Option.some.inj h); have HL := Aside0.mk hl1; clear hl1 h; rw [h1] at CS; rw [h2] at CC; rw [h4] at CI; have H3 := Aside0.mk h3; clear h3
    go_enter Tryz.func48, Tryz.ntmps48
    go_upto_region 1 with (fail)
    try rw [hw1]
    go_wp2_with (first | (go_at_call 87; refine (CS.out _ hB1).mono ?_; rintro e w2 ⟨rfl, hb2⟩; have y4 := (hb2.cell (p := ⟨w.heap.size + 1, 0, none⟩) hlt).trans x4) | (go_at_call 89; refine (CC.out _ (below_step hB1 hb2)).mono ?_; rintro e w3 ⟨rfl, hb3⟩; have hb13 := below_step hb2 hb3; have z0 := (hb13.cell (p := ⟨w.heap.size, 0, none⟩) (by simp; omega)).trans x0; have z1 := (hb13.cell (p := ⟨w.heap.size, 1, none⟩) (by simp; omega)).trans x1; have z2 := (hb13.cell (p := ⟨w.heap.size, 2, none⟩) (by simp; omega)).trans x2; have z3 := (hb13.cell (p := ⟨w.heap.size, 3, none⟩) (by simp; omega)).trans x3; have z4 := (hb13.cell (p := ⟨w.heap.size + 1, 0, none⟩) hlt).trans x4; have hsz3 := hb13.size) | (go_at_call 90; refine (CI.out h2 _ (below_step hB1 hb13) z4 (by omega)).mono ?_; rintro e w4 ⟨rfl, hb4⟩; have hb14 := below_step hb13 hb4; have u0 := (hb14.cell (p := ⟨w.heap.size, 0, none⟩) (by simp; omega)).trans x0; have u1 := (hb14.cell (p := ⟨w.heap.size, 1, none⟩) (by simp; omega)).trans x1; have u2 := (hb14.cell (p := ⟨w.heap.size, 2, none⟩) (by simp; omega)).trans x2; have u3 := (hb14.cell (p := ⟨w.heap.size, 3, none⟩) (by simp; omega)).trans x3; have u4 := (hb14.cell (p := ⟨w.heap.size + 1, 0, none⟩) hlt).trans x4) | (go_at_call 92; refine (CB.out _ _ (below_step hB1 hb14) HL.out).mono ?_; rintro e w5 ⟨v5, rfl, hR5, hb5⟩))
    go_ret2
    have hbA := below_step hB1 hb14; exact ⟨_, rfl, Kd.R_lower hR5 hbA.size, below_step hbA hb5⟩
  all_goals
    have h := HH.out; rw [if_neg (by simp [choiceB, *])] at h; obtain ⟨rfl, rfl⟩ := Prod.mk.inj (Option.some.inj h); clear h HH; (try rw [h4] at CI); try (have H3 := Aside0.mk h3; clear h3)
    go_enter Tryz.func48, Tryz.ntmps48
    go_upto_region 1 with (fail)
    try rw [hw1]
    go_wp2_with (first | (go_at_call 87; refine (CS.out _ hB1).mono ?_; rintro e w2 ⟨rfl, hb2⟩; have y4 := (hb2.cell (p := ⟨w.heap.size + 1, 0, none⟩) hlt).trans x4) | (go_at_call 89; refine (CC.out _ (below_step hB1 hb2)).mono ?_; rintro e w3 ⟨rfl, hb3⟩; have hb13 := below_step hb2 hb3; have z2 := (hb13.cell (p := ⟨w.heap.size, 2, none⟩) (by simp; omega)).trans x2; have z3 := (hb13.cell (p := ⟨w.heap.size, 3, none⟩) (by simp; omega)).trans x3; have z4 := (hb13.cell (p := ⟨w.heap.size + 1, 0, none⟩) hlt).trans x4; have hsz3 := hb13.size) | (go_at_call 90; refine (CI.out h2 _ (below_step hB1 hb13) z4 (by omega)).mono ?_; rintro e w4 ⟨rfl, hb4⟩; have hb14 := below_step hb13 hb4))
    go_ret2
    first
      | exact ⟨_, rfl, Kd.R_nil _ _ _ _ _, below_step hB1 hb14⟩
      | exact ⟨_, rfl, Kd.R_nil _ _ _ _ _, below_step hB1 hb13⟩
      | exact ⟨_, rfl, Kd.R_nil _ _ _ _ _, below_step hB1 hb2⟩
end Go.Proofs.YtdmdahafiiggiaaGreatDoor.K
end
section
namespace Go.Proofs.YtdmdahafiiggiaaGreatDoor.K
open Go.RowKit Go.Proofs.YtdmdahafiiggiaaGreatDoorW.PrintWords Go.Proofs.YtdmdahafiiggiaaGreatDoorW.PrintLast Go.Proofs.YtdmdahafiiggiaaGreatDoorW.PrintMore
structure SiOk (a b : Int) (pts : List S30) (lens : List Int) : Prop where
  a0 : 0 ≤ a
  ab : a ≤ b
  b1 : b ≤ 1000
  n0 : 2 ≤ pts.length
  n1 : pts.length ≤ 8
  ln : lens.length + 1 = pts.length
  pt : ∀ k : Int, 0 ≤ k → k < pts.length → 0 ≤ (rd_T30 pts k).f0 ∧ (rd_T30 pts k).f0 ≤ (rd_T30 pts k).f1 ∧ (rd_T30 pts k).f1 ≤ 1000
  le : ∀ k : Int, 0 ≤ k → k < lens.length → 1 ≤ rd lens k ∧ rd lens k ≤ 100
theorem rd_getElem {l : List Int} {k : Int} (h0 : 0 ≤ k) (h1 : k < l.length) : ∃ h : k.toNat < l.length, rd l k = l[k.toNat] := ⟨by omega, by simp [rd, List.getD, List.getElem?_eq_getElem (show k.toNat < l.length by omega)]⟩
theorem rdSpan_getElem {l : List S30} {k : Int} (h0 : 0 ≤ k) (h1 : k < l.length) : ∃ h : k.toNat < l.length, rd_T30 l k = l[k.toNat] := ⟨by omega, by simp [rd_T30, List.getD, List.getElem?_eq_getElem (show k.toNat < l.length by omega)]⟩
theorem rdClass_getElem {l : List S123} {k : Int} (h0 : 0 ≤ k) (h1 : k < l.length) : ∃ h : k.toNat < l.length, rd_T123 l k = l[k.toNat] := ⟨by omega, by simp [rd_T123, List.getD, List.getElem?_eq_getElem (show k.toNat < l.length by omega)]⟩
theorem siphon_ok {a b : Int} {pts : List S30} {lens : List Int} (h : isSiphonB a b pts lens = true) : SiOk a b pts lens := by
  simp only [isSiphonB, isSpanB, inB, Bool.and_eq_true, decide_eq_true_eq] at h; refine ⟨by omega, by omega, by omega, by omega, by omega, by omega, fun k h0 h1 => ?_, fun k h0 h1 => ?_⟩
  · obtain ⟨hk, e⟩ := rdSpan_getElem h0 h1; have := List.all_eq_true.mp h.1.2 _ (List.getElem_mem hk); rw [← e] at this; simp only [Bool.and_eq_true, decide_eq_true_eq] at this
    omega
  · obtain ⟨hk, e⟩ := rd_getElem h0 h1; have := List.all_eq_true.mp h.2 _ (List.getElem_mem hk); rw [← e] at this; simp only [Bool.and_eq_true, decide_eq_true_eq] at this
    omega
structure ClOk (cl : List S123) : Prop where
  n0 : 1 ≤ cl.length
  n1 : cl.length ≤ 4
  at_ : ∀ k : Int, 0 ≤ k → k < cl.length → 1 ≤ (rd_T123 cl k).f0 ∧ (rd_T123 cl k).f0 ≤ 1000 ∧ 0 ≤ (rd_T123 cl k).f1 ∧ (rd_T123 cl k).f1 ≤ 100 ∧ 0 ≤ (rd_T123 cl k).f2 ∧ (rd_T123 cl k).f2 ≤ 1000
theorem classes_ok {cl : List S123} (h : areClassesB cl = true) : ClOk cl := by
  simp only [areClassesB, inB, Bool.and_eq_true, decide_eq_true_eq] at h; refine ⟨by omega, by omega, fun k h0 h1 => ?_⟩; obtain ⟨hk, e⟩ := rdClass_getElem h0 h1; have := List.all_eq_true.mp h.2 _ (List.getElem_mem hk); rw [← e] at this; simp only [classB, inB, Bool.and_eq_true, decide_eq_true_eq] at this
  omega
def pressN (a b : Int) (pts : List S30) (k : Int) : S30 := ⟨mx 0 (a - mn (rd_T30 pts k).f1 (rd_T30 pts (k + 1)).f1), mx 0 (b - mn (rd_T30 pts k).f0 (rd_T30 pts (k + 1)).f0)⟩
def pressL (a b : Int) (pts : List S30) (n : Nat) : List S30 := (List.range n).map fun (k : Nat) => pressN a b pts (k : Int)
theorem pressL_succ (a b : Int) (pts : List S30) (n : Nat) : pressL a b pts (n + 1) = pressL a b pts n ++ [pressN a b pts (n : Int)] := by simp [pressL, List.range_succ]
theorem pressL_length (a b : Int) (pts : List S30) (n : Nat) : (pressL a b pts n).length = n := by simp [pressL]
theorem pressL_at (a b : Int) (pts : List S30) {n : Nat} {k : Int} (h0 : 0 ≤ k) (h1 : k < n) : rd_T30 (pressL a b pts n) k = pressN a b pts k := by
  obtain ⟨h, e⟩ := rdSpan_getElem (l := pressL a b pts n) h0 (by rw [pressL_length]; exact h1); rw [e]; simp [pressL]; congr 1; omega
theorem mn_le (a b : Int) : mn a b ≤ a ∧ mn a b ≤ b ∧ (mn a b = a ∨ mn a b = b) := by unfold mn; split <;> omega
theorem press_from {a b : Int} {pts : List S30} {lens : List Int} (h : SiOk a b pts lens) : ∀ (d j K : Nat), j + d = lens.length → d < K →
    channel_pressures.l0 K (pressL a b pts j) (lens.length : Int) (j : Int) a b pts lens = some (pressL a b pts lens.length)
  | 0, j, K + 1, hj, hK => by
    unfold channel_pressures.l0; rw [if_neg (by omega)]; rw [show j = lens.length by omega]
  | d + 1, j, K + 1, hj, hK => by
    have hn := h.n1; have hl := h.ln
    unfold channel_pressures.l0; have hw : wrap64 ((j : Int) + 1) = (j : Int) + 1 := IntWalk.wrap64_in _ (by omega); rw [hw, if_pos (by omega), if_pos (by omega), if_pos (by omega), if_pos (by omega), if_pos (by omega), if_pos (by rw [pressL_length]; omega)]; have p1 := h.pt (j : Int) (by omega) (by omega); have p2 := h.pt ((j : Int) + 1) (by omega) (by omega); have m1 := mn_le (rd_T30 pts (j : Int)).f1 (rd_T30 pts ((j : Int) + 1)).f1; have m2 := mn_le (rd_T30 pts (j : Int)).f0 (rd_T30 pts ((j : Int) + 1)).f0; have ha := h.a0; have hb := h.b1; have hab := h.ab
    rw [IntWalk.wrap64_in (a - _) (by omega), IntWalk.wrap64_in (b - _) (by omega)]; have := press_from h d (j + 1) K (by omega) (by omega); rw [pressL_succ] at this
    simpa [pressN] using this
theorem press_eq {a b : Int} {pts : List S30} {lens : List Int} (h : SiOk a b pts lens) (K : Nat) (hK : lens.length < K) : channel_pressures.f K a b pts lens = some (pressL a b pts lens.length) := by
  have := press_from h lens.length 0 K (by omega) hK
  simpa [channel_pressures.f, pressL] using this
def burstL (a b : Int) (pts : List S30) (cl : List S123) (x : List Int) (n : Nat) : List Int := ((List.range n).filter fun (k : Nat) => decide ((rd_T123 cl (rd x (k : Int))).f0 < (pressN a b pts (k : Int)).f1)).map fun (k : Nat) => (k : Int)
theorem burstL_succ (a b : Int) (pts : List S30) (cl : List S123) (x : List Int) (n : Nat) : burstL a b pts cl x (n + 1) = burstL a b pts cl x n ++ (if (rd_T123 cl (rd x (n : Int))).f0 < (pressN a b pts (n : Int)).f1 then [(n : Int)] else []) := by
  unfold burstL; rw [List.range_succ, List.filter_append, List.map_append]
  by_cases h : (rd_T123 cl (rd x (n : Int))).f0 < (pressN a b pts (n : Int)).f1 <;> simp [h]
theorem burstL_len (a b : Int) (pts : List S30) (cl : List S123) (x : List Int) (n : Nat) : (burstL a b pts cl x n).length ≤ n := by
  unfold burstL; rw [List.length_map]; have := List.length_filter_le (fun (k : Nat) => decide ((rd_T123 cl (rd x (k : Int))).f0 < (pressN a b pts (k : Int)).f1)) (List.range n); simpa using this
theorem burst_from {a b : Int} {pts : List S30} {lens : List Int} (h : SiOk a b pts lens) {cl : List S123} {x : List Int} (hx : x.length = lens.length) (hc : ∀ k : Int, 0 ≤ k → k < x.length → 0 ≤ rd x k ∧ rd x k < cl.length) : ∀ (d j K : Nat), j + d = lens.length → d < K →
    channel_bursts.l0 K cl x (burstL a b pts cl x j) (pressL a b pts lens.length) (lens.length : Int) (j : Int) = some (burstL a b pts cl x lens.length)
  | 0, j, K + 1, hj, hK => by
    unfold channel_bursts.l0; rw [if_neg (by omega), show j = lens.length by omega]
  | d + 1, j, K + 1, hj, hK => by
    have hn := h.n1; have hl := h.ln
    have hcj := hc (j : Int) (by omega) (by omega); have hbl := burstL_len a b pts cl x j; unfold channel_bursts.l0; rw [pressL_at a b pts (by omega) (by omega), pressL_length, IntWalk.wrap64_in ((j : Int) + 1) (by omega), if_pos (by omega), if_pos (by omega), if_pos (by omega), if_pos (by omega), if_pos hcj.1, if_pos hcj.2]; have hs := burstL_succ a b pts cl x j; have ih := burst_from h hx hc d (j + 1) K (by omega) (by omega); rw [hs] at ih
    by_cases hb : (rd_T123 cl (rd x (j : Int))).f0 < (pressN a b pts (j : Int)).f1
    · rw [if_pos hb, if_pos (by omega)]; rw [if_pos hb] at ih
      simpa using ih
    · rw [if_neg hb]; rw [if_neg hb] at ih
      simpa using ih
theorem bursts_eq {a b : Int} {pts : List S30} {lens : List Int} (h : SiOk a b pts lens) {cl : List S123} {x : List Int} (hx : x.length = lens.length) (hc : ∀ k : Int, 0 ≤ k → k < x.length → 0 ≤ rd x k ∧ rd x k < cl.length) (K : Nat) (hK : lens.length < K) :
    channel_bursts.f K a b pts lens cl x = some (burstL a b pts cl x lens.length) := by
  unfold channel_bursts.f; rw [press_eq h K hK]; have := burst_from h hx hc lens.length 0 K (by omega) hK; rw [Option.bind_some, pressL_length]
  simpa [burstL] using this
def usedN (lens x : List Int) (c : Int) : Nat → Int
  | 0 => 0
  | k + 1 => if rd x (k : Int) = c then usedN lens x c k + rd lens (k : Int) else usedN lens x c k
def priceN (lens : List Int) (cl : List S123) (x : List Int) : Nat → Int
  | 0 => 0
  | k + 1 => priceN lens cl x k + rd lens (k : Int) * (rd_T123 cl (rd x (k : Int))).f1
def usedL (lens x : List Int) (c n : Nat) : List Int := (List.range c).map fun (d : Nat) => usedN lens x (d : Int) n
def stockB (lens : List Int) (cl : List S123) (x : List Int) : Bool := (List.range cl.length).all fun (d : Nat) => decide (usedN lens x (d : Int) x.length ≤ (rd_T123 cl (d : Int)).f2)
def suffB (a b : Int) (pts : List S30) (lens : List Int) (cl : List S123) (x : List Int) : Bool := stockB lens cl x && (burstL a b pts cl x lens.length).isEmpty
theorem used_range {a b : Int} {pts : List S30} {lens : List Int} (h : SiOk a b pts lens) (x : List Int) (c : Int) : ∀ n : Nat, n ≤ lens.length → 0 ≤ usedN lens x c n ∧ usedN lens x c n ≤ 100 * n
  | 0, _ => by simp [usedN]
  | n + 1, hn => by
    have ih := used_range h x c n (by omega); have := h.le (n : Int) (by omega) (by omega); unfold usedN
    split <;> omega
theorem price_range {a b : Int} {pts : List S30} {lens : List Int} (h : SiOk a b pts lens) {cl : List S123} (hcl : ClOk cl) {x : List Int} (hx : x.length = lens.length) (hc : ∀ k : Int, 0 ≤ k → k < x.length → 0 ≤ rd x k ∧ rd x k < cl.length) : ∀ n : Nat, n ≤ lens.length → 0 ≤ priceN lens cl x n ∧ priceN lens cl x n ≤ 10000 * n
  | 0, _ => by simp [priceN]
  | n + 1, hn => by
    have ih := price_range h hcl hx hc n (by omega); have h1 := h.le (n : Int) (by omega) (by omega); have h2 := hc (n : Int) (by omega) (by omega); have h3 := hcl.at_ _ h2.1 h2.2; unfold priceN; have h4 : 0 ≤ rd lens (n : Int) * (rd_T123 cl (rd x (n : Int))).f1 := Int.mul_nonneg (by omega) (by omega); have h5 : rd lens (n : Int) * (rd_T123 cl (rd x (n : Int))).f1 ≤ 100 * 100 := Int.mul_le_mul (by omega) (by omega) (by omega) (by omega)
    omega
theorem usedL_zero (lens x : List Int) (c : Nat) : usedL lens x c 0 = List.replicate c 0 := by
  apply List.ext_getElem
  · simp [usedL]
  · intro i h1 h2; simp [usedL, usedN]
theorem usedL_length (lens x : List Int) (c n : Nat) : (usedL lens x c n).length = c := by simp [usedL]
theorem usedL_at (lens x : List Int) (c n : Nat) {d : Int} (h0 : 0 ≤ d) (h1 : d < c) : rd (usedL lens x c n) d = usedN lens x d n := by
  obtain ⟨h, e⟩ := rd_getElem (l := usedL lens x c n) h0 (by rw [usedL_length]; exact h1); rw [e]; simp [usedL]; congr 1; omega
theorem usedL_succ (lens x : List Int) (c n : Nat) (h0 : 0 ≤ rd x (n : Int)) (h1 : rd x (n : Int) < c) : usedL lens x c (n + 1) = (usedL lens x c n).set (rd x (n : Int)).toNat (usedN lens x (rd x (n : Int)) n + rd lens (n : Int)) := by
  apply List.ext_getElem
  · simp [usedL]
  · intro i h2 h3; rw [List.getElem_set]; simp only [usedL, List.getElem_map, List.getElem_range, usedN]
    by_cases e : rd x (n : Int) = (i : Int)
    · rw [if_pos e, if_pos (by omega), e]
    · rw [if_neg e, if_neg (by omega)]
end Go.Proofs.YtdmdahafiiggiaaGreatDoor.K
end
section
namespace Go.Proofs.YtdmdahafiiggiaaGreatDoor.K
open Go.RowKit Go.Shelf Go.Proofs.YtdmdahafiiggiaaGreatDoorW.PrintWords Go.Proofs.YtdmdahafiiggiaaGreatDoorW.PrintLast Go.Proofs.YtdmdahafiiggiaaGreatDoorW.PrintMore
def onlyN (Q : Exit → Act → World → Prop) : Exit → Act → World → Prop
  | .normal, a, w => Q .normal a w
  | _, _, _ => False
def noDefer (ops : Array Oper) : Bool := ops.all fun o => match o.op with
  | .defer _ => false
  | _ => true
theorem noDefer_at {ops : Array Oper} (h : noDefer ops = true) {i : Nat} {o : Oper} (ho : ops[i]? = some o) : ∀ c, o.op ≠ .defer c := by
  intro c hc; have := (Array.all_eq_true_iff_forall_mem.1 h) o (Array.mem_of_getElem? ho); rw [hc] at this
  cases this
theorem callsIn_wide_r {l n : Nat} {P : Program} {f : FuncId} {args : Array Value} {w : World} {R : Ending → World → Prop} (h : Calls P f args w R) : CallsIn (Fence.wide.inRound l) n P f args w R := CallsIn.inRound l (callsIn_wide.2 h)
theorem rowsIn_wide_r {l n : Nat} {P : Program} {row : String} {args : Array Value} {w : World} {R : Value → World → Prop} (h : Rows P row args w R) : RowsIn (Fence.wide.inRound l) n P row args w R :=
  fun c cs _ => let ⟨v, w', r, s⟩ := h c cs; ⟨v, w', r, (stepsIn_wide (P := P)).2 s⟩
theorem wpOpIn_of_wpOp {l n : Nat} {P : Program} {ops : Array Oper} (hd : noDefer ops = true) {Q : Exit → Act → World → Prop} (hQ : ∀ a w, ¬ Q .outgrown a w) {i : Nat} {K : Act → World → Prop} {a : Act} {w : World} (h : wpOp P ops Q i K a w) : wpOpIn (Fence.wide.inRound l) n P ops Q i K a w := by
  unfold wpOp at h; unfold wpOpIn
  split
  · rename_i he; rw [he] at h; exact h
  · rename_i o ho
    rw [ho] at h; simp only at h
    split
    · rename_i hw
      rw [if_pos hw] at h; have h := h.resolve_right (fun hn => by obtain ⟨a, w, hx⟩ := hn.2; exact hQ a w hx); unfold Oper.wp at h; unfold Oper.wpIn; refine ⟨fun _ _ => trivial, ?_⟩; rw [Oper.semAt_eq _ _ _ (noDefer_at hd ho)]; generalize (execOp a.eval o).run P w = r at h ⊢
      cases r with
      | ok x w' =>
        cases x <;> simp only [Oper.upon, Oper.uponIn] at h ⊢ <;>
          first
            | exact h
            | exact ⟨fun h0 => (by cases h0), (callsIn_wide_r h).mono fun e w he => by cases e <;> exact he⟩
            | exact ⟨fun h0 => (by cases h0), rowsIn_wide_r h⟩
            | exact h.elim
      | halt x w' => cases x <;> simp only [Oper.upon, Oper.uponIn] at h ⊢ <;> exact h
    · rename_i hw
      rw [if_neg hw] at h; exact ⟨fun _ _ => trivial, h⟩
theorem wpAnyIn_of_wpAny {l n : Nat} {P : Program} {md : Region.Mode} {ops : Array Oper} (hd : noDefer ops = true) {Q : Exit → Act → World → Prop} (hQ : ∀ a w, ¬ Q .outgrown a w) : ∀ (fuel : Nat) (listed : Array Bool) (a : Act) (w : World), wpAny P md ops Q fuel listed a w → wpAnyIn (Fence.wide.inRound l) n P md ops Q fuel listed a w
  | 0, _, _, _, h => h
  | fuel + 1, listed, a, w, h => ⟨h.1, fun i hi => wpOpIn_mono (fun a w => wpAnyIn_of_wpAny hd hQ fuel _ a w) (wpOpIn_of_wpOp hd hQ (h.2 i hi))⟩
theorem startR_ {l id n m : Nat} {P : Program} {ops : Array Oper} {Q : Exit → Act → World → Prop} {S : World → Prop} {ds : List Nat} {a : Act} {w : World} (lst : Array Bool) (hm : P.follows .mixedOrders = true) (hd : noDefer ops = true) (hn : ops.size = m) (hl : Array.replicate m false = lst) (hS : S w.drew)
    (h : S w.drew → wpAnyLast P .any ops (onlyN Q) S ds m lst a w.drew) : (Code.region id ops true).wpIn (Fence.wide.inRound l) n P Q a w := by
  subst hn; subst hl; refine wpIn_mono (wpIn_region_any hm (wpAnyIn_of_wpAny hd (Q := onlyN Q) (fun _ _ h => h) _ _ _ _ (wpAny_of_last _ _ _ _ (h hS)))) ?_; intro e a w h
  cases e with
  | normal => exact h
  | _ => exact h.elim
theorem startN_ {id n m : Nat} {P : Program} {ops : Array Oper} {Q : Exit → Act → World → Prop} {S : World → Prop} {ds : List Nat} {a : Act} {w : World} (lst : Array Bool) (hm : P.follows .mixedOrders = true) (hn : ops.size = m) (hl : Array.replicate m false = lst) (hS : S w.drew)
    (h : S w.drew → wpAnyLast P .any ops (onlyN Q) S ds m lst a w.drew) : (Code.region id ops true).wpIn Fence.wide n P Q a w := by
  refine wpIn_mono (wpIn_wide.2 (start_ (Q := onlyN Q) lst hm hn hl hS h)) ?_; intro e a w h
  cases e with
  | normal => exact h
  | _ => exact h.elim
end Go.Proofs.YtdmdahafiiggiaaGreatDoor.K
end
section
namespace Go.Proofs.YtdmdahafiiggiaaGreatDoor.K
open Go.RowKit Go.Shelf Go.Proofs.YtdmdahafiiggiaaGreatDoorW.PrintWords Go.Proofs.YtdmdahafiiggiaaGreatDoorW.PrintLast Go.Proofs.YtdmdahafiiggiaaGreatDoorW.PrintMore
attribute [local go_sem] Oper.semAt_some
set_option maxHeartbeats 1000000 in
theorem choices_any (s c : Int) (w : World) :
    Calls Tryz.prog 118 #[.int .i64 s, .int .i64 c] w fun e w' => e = .returned (.func (.func 139) #[] #[.pointer (some ⟨w.heap.size, 0, none⟩), .pointer (some ⟨w.heap.size + 1, 0, none⟩)]) ∧ w' = (w.alloc (.cells #[.int .i64 s] 3)).alloc (.cells #[.int .i64 c] 3) := by
  have hmf : ∀ (fn : Fn) (first cap : Array Value) (w : World), (Instr.makeFunc fn first cap).run Tryz.prog w = .ok (.func fn first cap) w := fun _ _ _ _ => rfl
  go_enter Tryz.func118, Tryz.ntmps118
  go_wp2; go_ret; exact ⟨rfl, rfl⟩
set_option maxRecDepth 100000 in
set_option maxHeartbeats 1000000 in
theorem enough_any (a b : Int) (A2 A3 A1 : Option Addr) (n2 n3 n1 c2 c3 c1 : Nat) (w : World) :
    Calls Tryz.prog 94 #[.agg #[.int .i64 a, .int .i64 b, .slice A2 n2 c2, .slice A3 n3 c3], .slice A1 n1 c1] w fun e w' => e = .returned (.func (.func 117) #[] #[.pointer (some ⟨w.heap.size, 0, none⟩), .pointer (some ⟨w.heap.size + 1, 0, none⟩)]) ∧ w' = (w.alloc (.cells #[.int .i64 a, .int .i64 b, .slice A2 n2 c2, .slice A3 n3 c3] 78)).alloc (.cells #[.slice A1 n1 c1] 84) := by
  have hu1 := Tryz.underlying78; have hmf : ∀ (fn : Fn) (first cap : Array Value) (w : World), (Instr.makeFunc fn first cap).run Tryz.prog w = .ok (.func fn first cap) w := fun _ _ _ _ => rfl
  go_enter Tryz.func94, Tryz.ntmps94
  go_wp2; go_ret; exact ⟨rfl, rfl⟩
def AtP (B : Nat) (W : World) (x : List Int × Int) (v : Array Value) : Prop := ∃ sl, v = #[.agg #[sl, .int .i64 x.2]] ∧ OwnI W B sl x.1
def filtP (a b : Int) (pts : List S30) (lens : List Int) (cl : List S123) (l : List (List Int)) : List (List Int × Int) := (l.filter (suffB a b pts lens cl)).map fun x => (x, priceN lens cl x x.length)
theorem filtP_snoc (a b : Int) (pts : List S30) (lens : List Int) (cl : List S123) (l : List (List Int)) (x : List Int) : filtP a b pts lens cl (l ++ [x]) = filtP a b pts lens cl l ++ if suffB a b pts lens cl x = true then [(x, priceN lens cl x x.length)] else [] := by
  unfold filtP; rw [List.filter_append, List.map_append]; by_cases h : suffB a b pts lens cl x = true <;> simp [h]
theorem filtP_rest {a b : Int} {pts : List S30} {lens : List Int} {cl : List S123} {l pre : List (List Int)} {x : List Int} (h : ∃ rest, l = pre ++ x :: rest) (hs : suffB a b pts lens cl x = true) : ∃ rest, filtP a b pts lens cl l = filtP a b pts lens cl pre ++ (x, priceN lens cl x x.length) :: rest := by
  obtain ⟨rest, rfl⟩ := h; refine ⟨filtP a b pts lens cl rest, ?_⟩; unfold filtP; rw [List.filter_append, List.map_append, List.filter_cons, if_pos hs]; rfl
theorem OwnI.kb {W W1 : World} {base : Nat} {v : Value} {xs : List Int} {M : Nat → Prop} (h : OwnI W base v xs) (hk : KB M W W1) (hM : ∀ k, M k → k < base) : OwnI W1 base v xs :=
  Kd.R_of_own (own_move (Kd.own_of_R h) (fun k e => by have := OwnI.blk h e; exact hk.block _ this.2 (fun e2 => by have := hM _ e2; omega))) (fun _ _ => trivial)
theorem KB.step {M N : Nat → Prop} {A B C : World} (h : KB M A B) (k : KB N B C) (hN : ∀ i, i < A.heap.size → N i → M i) : KB M A C :=
  ⟨k.os.trans h.os, k.tape.trans h.tape, k.output.trans h.output, Nat.le_trans h.size k.size, fun i hi hm => (k.block i (Nat.lt_of_lt_of_le hi h.size) (fun hn => hm (hN i hi hn))).trans (h.block i hi hm)⟩
theorem mem_tails (c : Nat) : ∀ (m : Nat) (x : List Int), x ∈ tails c m ↔ x.length = m ∧ ∀ a ∈ x, 0 ≤ a ∧ a < c
  | 0, x => by
    simp only [tails, List.mem_singleton]
    constructor
    · rintro rfl; simp
    · intro h; exact List.eq_nil_of_length_eq_zero h.1
  | m + 1, x => by
    simp only [tails, List.mem_flatMap, List.mem_range, List.mem_map]
    constructor
    · rintro ⟨d, hd, r, hr, rfl⟩; obtain ⟨h1, h2⟩ := (mem_tails c m r).1 hr; refine ⟨by simp [h1], fun a ha => ?_⟩
      rcases List.mem_cons.1 ha with rfl | ha
      · omega
      · exact h2 a ha
    · rintro ⟨h1, h2⟩
      cases x with
      | nil => simp at h1
      | cons a x =>
        have ha := h2 a List.mem_cons_self; refine ⟨a.toNat, by omega, x, (mem_tails c m x).2 ⟨by simpa using h1, fun b hb => h2 b (List.mem_cons_of_mem _ hb)⟩, ?_⟩; rw [Int.toNat_of_nonneg ha.1]
theorem tails_at {c m : Nat} {x : List Int} (h : x ∈ tails c m) : x.length = m ∧ ∀ k : Int, 0 ≤ k → k < x.length → 0 ≤ rd x k ∧ rd x k < c := by
  obtain ⟨h1, h2⟩ := (mem_tails c m x).1 h; refine ⟨h1, fun k h0 hk => ?_⟩; obtain ⟨hk', e⟩ := rd_getElem h0 hk; rw [e]; exact h2 _ (List.getElem_mem hk')
set_option maxRecDepth 100000 in
set_option maxHeartbeats 2000000 in
theorem enough1_seq (n : Nat) (h1 : 1 ≤ n) (S0 C0 : Nat) (a b : Int) (A2 A3 A1 : Option Addr) (c2 c3 c1 : Nat) (pts : List S30) (lens : List Int) (cl : List S123) (w : World) (hsi : isSiphonB a b pts lens = true) (hcl : areClassesB cl = true)
    (hS : w.heap[S0]? = some (.cells #[.int .i64 a, .int .i64 b, .slice A2 pts.length c2, .slice A3 lens.length c3] 78 (0, 0))) (hC : w.heap[C0]? = some (.cells #[.slice A1 cl.length c1] 84 (0, 0)))
    (hr2 : Kd.C k30 w A2 pts.length pts) (hc2 : pts.length ≤ c2) (hr3 : Kd.C (Kd.int .i64) w A3 lens.length lens) (hc3 : lens.length ≤ c3) (hr1 : Kd.C k123 w A1 cl.length cl) (hc1 : cl.length ≤ c1) :
    SeqM Fence.wide n Tryz.prog 117 #[.pointer (some ⟨S0, 0, none⟩), .pointer (some ⟨C0, 0, none⟩)] 9 (fun k => k < w.heap.size) AtP (filtP a b pts lens cl (tails cl.length lens.length)) w := by
  intro l M J W hkw hC0 hM hJ hY h0; have hB : Below w.heap.size w W := hkw.below (Nat.le_refl _) (fun k hk hn => hn hk); have hlS := blk_lt hS; have hlC := blk_lt hC; have hSW : W.heap[S0]? = some (.cells #[.int .i64 a, .int .i64 b, .slice A2 pts.length c2, .slice A3 lens.length c3] 78 (0, 0)) := (hB.block _ hlS).trans hS; have hCW : W.heap[C0]? = some (.cells #[.slice A1 cl.length c1] 84 (0, 0)) := (hB.block _ hlC).trans hC; have si := siphon_ok hsi; have ck := classes_ok hcl; have hu1 := Tryz.underlying78; obtain ⟨W1, hW1⟩ : ∃ W1, W.alloc (.cells #[.func (.yield l) #[] #[]] 154) = W1 := ⟨_, rfl⟩; have hS1 := blk_alloc hSW (.cells #[.func (.yield l) #[] #[]] 154); have hC1 := blk_alloc hCW (.cells #[.func (.yield l) #[] #[]] 154); have hz1 : W1.heap.size = W.heap.size + 1 := by rw [← hW1]; exact World.size_alloc _ _
  rw [hW1] at hS1 hC1; have y0 : W1.cell? ⟨S0, 2, none⟩ = some (.slice A2 pts.length c2) := (blk_cell hS1 2).trans rfl; have y1 : W1.cell? ⟨S0, 3, none⟩ = some (.slice A3 lens.length c3) := (blk_cell hS1 3).trans rfl; have y2 : W1.cell? ⟨C0, 0, none⟩ = some (.slice A1 cl.length c1) := (blk_cell hC1 0).trans rfl; have H0 := Aside0.mk (And.intro h0 (And.intro hB (And.intro hS1 hC1))); clear h0 hB hS1 hC1 hSW hCW; refine callsIn_of_wp_marks Tryz.func117 rfl trivial ?_ rfl; simp only [Tryz.ntmps117, List.size_toArray, List.length_cons, List.length_nil, Nat.reduceAdd, Nat.reduceSub, Array.replicate_succ, Array.replicate_zero, List.push_toArray, List.append_toArray, List.nil_append, List.cons_append]
  gi_wp2
  refine wpIn_wide.2 (wp_scope_straight ((wpIn_wide (n := n)).1 ?_)); refine wpIn_seq (wpIn_label ?_); try rw [hW1]
  gi_wp2
  refine ⟨trivial, ?_⟩; refine (callsIn_wide.2 (choices_any _ _ _)).mono ?_; rintro e w2 ⟨rfl, rfl⟩
  gi_wp2
  obtain ⟨W3, hW3⟩ : ∃ W3, (W1.alloc (.cells #[.int .i64 lens.length] 3)).alloc (.cells #[.int .i64 cl.length] 3) = W3 := ⟨_, rfl⟩; rw [hW3]; have hz3 : W3.heap.size = W.heap.size + 3 := by rw [← hW3]; simp [hz1]
  have hk3 : ∀ N : Nat → Prop, KB N W W3 := fun N => by rw [← hW3, ← hW1]; exact ((KB.alloc W _).trans (KB.alloc _ _)).trans (KB.alloc _ _)
  have hseg : W3.heap[W.heap.size + 1]? = some (.cells #[.int .i64 lens.length] 3 (0, 0)) := by
    rw [← hW3, ← hz1]; exact blk_alloc (blk_new _ _) _
  have hcls : W3.heap[W.heap.size + 1 + 1]? = some (.cells #[.int .i64 cl.length] 3 (0, 0)) := by
    have := blk_new (W1.alloc (.cells #[.int .i64 lens.length] 3)) (.cells #[.int .i64 cl.length] 3); rw [World.size_alloc, hz1, hW3] at this; exact this
  have hyb : W3.heap[W.heap.size]? = some (.cells #[.func (.yield l) #[] #[]] 154 (0, 0)) := by
    rw [← hW3, ← hW1]; exact blk_alloc (blk_alloc (blk_new _ _) _) _
  clear y0 y1 y2; have hsz := H0.out.2.1.size; have n0 := si.n0; have n1 := si.n1; have n2 := si.ln; have n3 := ck.n0; have n4 := ck.n1
  have hseq := choices1_seq (n - 1) (W.heap.size + 1) (W.heap.size + 1 + 1) lens.length cl.length (by omega) (by omega) W3 hseg hcls
  refine wpIn_rangeM rfl h1 (gf := 139) rfl trivial (enters_of Tryz.func139 (by kernel_rfl) rfl) hseq M (KB.refl _ _) (fun k hk => by rcases hk with rfl | rfl <;> omega) (fun k hk => ⟨by have := (hM k hk).1; omega, fun e => by have := (hM k hk).1; omega⟩) (fun B W x v h => by obtain ⟨sl, rfl, _⟩ := h; rfl)
    (fun pre W' => J (filtP a b pts lens cl pre) W' ∧ W'.heap[W.heap.size]? = some (.cells #[.func (.yield l) #[] #[]] 154 (0, 0)) ∧ Below w.heap.size w W')
    (fun pre x a₁ W' => (J (filtP a b pts lens cl pre) W' ∧ W'.heap[W.heap.size]? = some (.cells #[.func (.yield l) #[] #[]] 154 (0, 0)) ∧ Below w.heap.size w W') ∧ ∃ sl, a₁ = { tmps := #[.func (.yield l) #[] #[], .pointer (some ⟨S0, 0, none⟩), .pointer (some ⟨C0, 0, none⟩), .pointer (some ⟨W.heap.size, 0, none⟩), sl, undef, undef, undef, undef, undef, undef, .pointer (some ⟨S0, 3, none⟩), .slice A3 lens.length c3, .int .i64 lens.length, .slice A1 cl.length c1, .int .i64 cl.length, .func (.func 139) #[] #[.pointer (some ⟨W.heap.size + 1, 0, none⟩), .pointer (some ⟨W.heap.size + 1 + 1, 0, none⟩)], sl, undef, undef, undef, undef, undef, undef, undef, undef, undef, undef, undef, undef, undef, undef, undef, undef, undef, undef, undef, undef, undef, undef, undef, undef, undef, undef, undef, undef, undef, undef, undef, undef, undef, undef, undef, undef, undef, undef, undef, undef, undef, undef, undef, undef, undef, undef, undef, undef, undef, undef, undef, undef, undef, undef, undef, undef, undef, undef, undef, undef, undef, undef, undef, undef], defers := [] } ∧ OwnI W' (W.heap.size + 9) sl x)
    ?sI ?sM ?h0 ?assign ?body ?done
  case sI =>
    rintro pre A A' ⟨hj, hy, hb⟩ hs hk; exact ⟨hJ _ _ _ hj (by omega) (hk.mono fun k _ h => ⟨by omega, by omega⟩), hk.at hy (by omega), hb.trans (hk.below (by omega) (fun k hkk h => by omega))⟩
  case sM =>
    rintro pre x a1 A A' ⟨⟨hj, hy, hb⟩, sl, rfl, ho⟩ hs hk; exact ⟨⟨hJ _ _ _ hj (by omega) (hk.mono fun k _ h => ⟨by omega, by omega⟩), hk.at hy (by omega), hb.trans (hk.below (by omega) (fun k hkk h => by omega))⟩, sl, rfl, ho.kb hk (fun k h => by omega)⟩
  case h0 =>
    exact ⟨hJ _ _ _ H0.out.1 (Nat.le_refl _) (hk3 _), hyb, H0.out.2.1.trans ((hk3 (fun _ => False)).below (by omega) (fun k hkk h => h))⟩
  case assign =>
    rintro l' pre x v W' hI hs ⟨sl, rfl, ho⟩ hrest
    gi_wp2
    refine ⟨KB.refl _ _, hI, sl, rfl, ?_⟩; rw [hz3] at ho; exact ho
  case done =>
    rintro W' ⟨hj, hy, hb⟩ hk hD
    gi_wp2
    refine ⟨by simp, .inl ⟨_, _, rfl, run_takeDeferred hD, ?_⟩⟩; exact ⟨_, results_none rfl _ _ _, ⟨_, rfl⟩, hJ _ _ _ hj (Nat.le_trans (by omega) hk.size) (KB.putObj _ _ _ fun _ => ⟨by omega, by omega⟩), KB.step ((hk3 M).trans hk) (KB.putObj (M := fun k => k = W3.heap.size) _ _ _ fun _ => rfl) (fun i hi e => by omega)⟩
  case body =>
    rintro l' pre x a1 Wb ⟨⟨hj, hy, hb⟩, sl, rfl, ho⟩ hs hrest; have hmem : x ∈ tails cl.length lens.length := by obtain ⟨r, e⟩ := hrest; rw [e]; simp
    obtain ⟨hxl, hxr⟩ := tails_at hmem; obtain ⟨g, cx, rfl, hg1, hg2, hg3⟩ := own_form ho (by omega); have hSb := (hb.block _ hlS).trans hS; have hCb := (hb.block _ hlC).trans hC; have y2 : Wb.cell? ⟨C0, 0, none⟩ = some (.slice A1 cl.length c1) := (blk_cell hCb 0).trans rfl; have hmk := print_make (P := Tryz.prog) 22 3 .i64 8 Tryz.underlying22 info3 (by omega) cl.length (by omega); obtain ⟨Wu, hWu⟩ : ∃ Wu, Wb.alloc (.cells (madeCells #[Value.int .i64 0] cl.length) 3) = Wu := ⟨_, rfl⟩
    have HOU : Aside0 (OwnI Wu Wb.heap.size (.slice (some ⟨Wb.heap.size, 0, none⟩) cl.length cl.length) (usedL lens x cl.length 0)) := ⟨by
      rw [← hWu, usedL_zero]; have hr := own_made Wb Wb.heap.size 3 .i64 cl.length (by simp) (by omega)
      exact Kd.R_of_own (by rw [List.length_replicate]; exact hr) (fun _ _ => trivial)⟩
    have HKU : Aside0 (KB (fun _ => False) Wb Wu) := ⟨by rw [← hWu]; exact KB.alloc _ _⟩
    have HEnd : Aside0 (∀ wz, KB (fun _ => False) Wb wz → suffB a b pts lens cl x = false → KB M Wb wz ∧ J (filtP a b pts lens cl (pre ++ [x])) wz ∧ wz.heap[W.heap.size]? = some (.cells #[.func (.yield l) #[] #[]] 154 (0, 0)) ∧ Below w.heap.size w wz) := ⟨fun wz hkz hsf => by
      have hwz : W.heap.size ≤ Wb.heap.size := by omega
      have e : filtP a b pts lens cl (pre ++ [x]) = filtP a b pts lens cl pre := by rw [filtP_snoc, hsf]; simp
      rw [e]
      exact ⟨hkz.mono (fun k _ h => h.elim), hJ _ _ _ hj hwz (hkz.mono (fun k _ h => h.elim)), hkz.at hy id, hb.trans (hkz.below hb.size (fun _ _ h => h))⟩⟩
    have HX := Aside0.mk (And.intro hxl (And.intro hg1 (And.intro hg2 hg3))); have HXR := Aside0.mk hxr; have HB := Aside0.mk (And.intro hb (And.intro hSb hCb)); have HJ := Aside0.mk (And.intro hj (And.intro hy ho)); have HS := Aside0.mk (And.intro hs (And.intro hrest hmem)); clear hj hy hb ho hs hrest hmem hxl hxr hSb hCb hg1 hg2 hg3
    gi_wp2
    gi_loopw [6, 23] (fun v6 v23 wr => ∃ k : Nat, v6 = .int .i64 (priceN lens cl x k) ∧ v23 = .int .i64 (k : Int) ∧ Aside0 (k ≤ x.length) ∧ Aside0 (OwnI wr Wb.heap.size (.slice (some ⟨Wb.heap.size, 0, none⟩) cl.length cl.length) (usedL lens x cl.length k)) ∧ Aside0 (KB (fun _ => False) Wb wr))
      (fun _ v _ => x.length - (intOf v).toNat)
    case atStart => exact ⟨0, rfl, rfl, ⟨Nat.zero_le _⟩, HOU, HKU⟩
    case round =>
      obtain ⟨k, rfl, rfl, HK, HO, HKB⟩ := hrel
      by_cases hk : k < x.length
      · have hkr := HKB.out; have hwb : w.heap.size ≤ Wb.heap.size := HB.out.1.size; have hbr : Below w.heap.size w wr := HB.out.1.trans (hkr.below hwb (fun _ _ h => h)); have z2 : wr.cell? ⟨S0, 3, none⟩ = some (.slice A3 lens.length c3) := (blk_cell ((hbr.block _ hlS).trans hS) 3).trans rfl; have z3 : wr.cell? ⟨C0, 0, none⟩ = some (.slice A1 cl.length c1) := (blk_cell ((hbr.block _ hlC).trans hC) 0).trans rfl; have p1 : (0 : Int) ≤ (k : Int) := by omega
        have p2 : (k : Int) < (x.length : Int) := by omega
        have p3 : (k : Int) < (lens.length : Int) := by have := HX.out.1; omega
        have hdr := HXR.out (k : Int) p1 p2; obtain ⟨z1, -⟩ := Kd.R_celln (0 : Int) (HJ.out.2.2.kb hkr (fun _ h => h.elim)) (k : Int) p1 p2; obtain ⟨ad3, e3, z4⟩ := Kd.at_int (Kd.C_below hr3 hbr) (k : Int) p1 p3; have hdd : rdOf (0 : Int) x (k : Int) = rd x (k : Int) := rfl; rw [hdd] at z1; obtain ⟨d, hd⟩ : ∃ d, rd x (k : Int) = d := ⟨_, rfl⟩; rw [hd] at z1 hdr; obtain ⟨adc, ec, -, z5, -⟩ := at_T123 (Kd.C_below hr1 hbr) d hdr.1 hdr.2; obtain ⟨z6, z6f⟩ := Kd.R_celln (0 : Int) HO.out d hdr.1 hdr.2; rw [show rdOf (0 : Int) (usedL lens x cl.length k) d = usedN lens x d k from usedL_at lens x cl.length k hdr.1 hdr.2] at z6; rw [Int.toNat_natCast] at z1 z4; have hu := used_range si x d k (by have := HX.out.1; omega); have hle := si.le (k : Int) p1 p3; have HD := Aside0.mk hd; clear hd hdd; have cc3 : decide ((k : Int) < (x.length : Int)) = true := decide_eq_true p2; have q1 := eq_true p1; have q2 := eq_true p2; have q3 := eq_true p3; have q4 := eq_true hdr.1; have q5 := eq_true hdr.2; subst e3 ec; have hmix : Tryz.prog.follows .mixedOrders = true := by kernel_rfl
        gi_wp2
        refine startR_ (m := 12) (S := fun w' => w'.cell? ⟨Wb.heap.size, d.toNat, none⟩ = some (.int .i64 (usedN lens x d k)) ∧ w'.cell? ⟨S0, 3, none⟩ = some (.slice (some ad3) lens.length c3) ∧ w'.cell? (ad3.add k) = some (.int .i64 (rd lens k))) (ds := [11]) #[false, false, false, false, false, false, false, false, false, false, false, false] hmix (by kernel_rfl) rfl rfl ⟨z6, z2, z4⟩ (fun hHeld => ?_); refine pure_ (i := 0) (N := (some 28)) (v := ?_) (a' := ?_) #[true, false, false, false, false, false, false, false, false, false, false, false] rfl rfl (by kernel_rfl) (fun _ _ _ h => h) (Or.inl ⟨by rfl, ?_⟩) ?_ ?_; rotate_left
        · intro w'
          go_simp
          with_reducible rfl
        rotate_left
        · simp only [Act.put, List.setIfInBounds_toArray, List.set_cons_zero, List.set_cons_succ, i64_w, i32_w]
          rfl
        refine pure_ (i := 1) (N := (some 29)) (v := ?_) (a' := ?_) #[true, true, false, false, false, false, false, false, false, false, false, false] rfl rfl (by kernel_rfl) (fun _ _ _ h => h) (Or.inl ⟨by rfl, ?_⟩) ?_ ?_; rotate_left
        · intro w'
          go_simp
          with_reducible rfl
        rotate_left
        · simp only [Act.put, List.setIfInBounds_toArray, List.set_cons_zero, List.set_cons_succ, i64_w, i32_w]
          rfl
        refine pure_ (i := 2) (N := (some 30)) (v := ?_) (a' := ?_) #[true, true, true, false, false, false, false, false, false, false, false, false] rfl rfl (by kernel_rfl) (fun _ _ _ h => h) (Or.inl ⟨by rfl, ?_⟩) ?_ ?_; rotate_left
        · intro w'
          go_simp
          with_reducible rfl
        rotate_left
        · simp only [Act.put, List.setIfInBounds_toArray, List.set_cons_zero, List.set_cons_succ, i64_w, i32_w]
          rfl
        refine take_ (i := 3) (N := (some 31)) (v := ?_) (a' := ?_) #[true, true, true, true, false, false, false, false, false, false, false, false] rfl rfl (by kernel_rfl) (fun _ _ _ h => h) (Or.inl ⟨by rfl, ?_⟩) hHeld ?_ ?_; rotate_left
        · rintro w' ⟨s0, s1, s2⟩
          go_simp
          with_reducible rfl
        rotate_left
        · simp only [Act.put, List.setIfInBounds_toArray, List.set_cons_zero, List.set_cons_succ, i64_w, i32_w]
          rfl
        refine pure_ (i := 4) (N := (some 32)) (v := ?_) (a' := ?_) #[true, true, true, true, true, false, false, false, false, false, false, false] rfl rfl (by kernel_rfl) (fun _ _ _ h => h) (Or.inl ⟨by rfl, ?_⟩) ?_ ?_; rotate_left
        · intro w'
          go_simp
          with_reducible rfl
        rotate_left
        · simp only [Act.put, List.setIfInBounds_toArray, List.set_cons_zero, List.set_cons_succ, i64_w, i32_w]
          rfl
        refine take_ (i := 5) (N := (some 33)) (v := ?_) (a' := ?_) #[true, true, true, true, true, true, false, false, false, false, false, false] rfl rfl (by kernel_rfl) (fun _ _ _ h => h) (Or.inl ⟨by rfl, ?_⟩) hHeld ?_ ?_; rotate_left
        · rintro w' ⟨s0, s1, s2⟩
          go_simp
          with_reducible rfl
        rotate_left
        · simp only [Act.put, List.setIfInBounds_toArray, List.set_cons_zero, List.set_cons_succ, i64_w, i32_w]
          rfl
        refine pure_ (i := 6) (N := (some 34)) (v := ?_) (a' := ?_) #[true, true, true, true, true, true, true, false, false, false, false, false] rfl rfl (by kernel_rfl) (fun _ _ _ h => h) (Or.inl ⟨by rfl, ?_⟩) ?_ ?_; rotate_left
        · intro w'
          go_simp
          with_reducible rfl
        rotate_left
        · simp only [Act.put, List.setIfInBounds_toArray, List.set_cons_zero, List.set_cons_succ, i64_w, i32_w]
          rfl
        refine pure_ (i := 7) (N := (some 35)) (v := ?_) (a' := ?_) #[true, true, true, true, true, true, true, true, false, false, false, false] rfl rfl (by kernel_rfl) (fun _ _ _ h => h) (Or.inl ⟨by rfl, ?_⟩) ?_ ?_; rotate_left
        · intro w'
          go_simp
          with_reducible rfl
        rotate_left
        · simp only [Act.put, List.setIfInBounds_toArray, List.set_cons_zero, List.set_cons_succ, i64_w, i32_w]
          rfl
        refine take_ (i := 8) (N := (some 36)) (v := ?_) (a' := ?_) #[true, true, true, true, true, true, true, true, true, false, false, false] rfl rfl (by kernel_rfl) (fun _ _ _ h => h) (Or.inl ⟨by rfl, ?_⟩) hHeld ?_ ?_; rotate_left
        · rintro w' ⟨s0, s1, s2⟩
          go_simp
          with_reducible rfl
        rotate_left
        · simp only [Act.put, List.setIfInBounds_toArray, List.set_cons_zero, List.set_cons_succ, i64_w, i32_w]
          rfl
        refine pure_ (i := 9) (N := (some 37)) (v := ?_) (a' := ?_) #[true, true, true, true, true, true, true, true, true, true, false, false] rfl rfl (by kernel_rfl) (fun _ _ _ h => h) (Or.inl ⟨by rfl, ?_⟩) ?_ ?_; rotate_left
        · intro w'
          go_simp
          with_reducible rfl
        rotate_left
        · simp only [Act.put, List.setIfInBounds_toArray, List.set_cons_zero, List.set_cons_succ, i64_w, i32_w]
          rfl
        refine pure_ (i := 10) (N := (some 38)) (v := ?_) (a' := ?_) #[true, true, true, true, true, true, true, true, true, true, true, false] rfl rfl (by kernel_rfl) (fun _ _ _ h => h) (Or.inl ⟨by rfl, ?_⟩) ?_ ?_; rotate_left
        · intro w'
          go_simp
          with_reducible rfl
        rotate_left
        · simp only [Act.put, List.setIfInBounds_toArray, List.set_cons_zero, List.set_cons_succ, i64_w, i32_w]
          rfl
        have hw8 : wrap64 (usedN lens x d k + rd lens (k : Int)) = usedN lens x d k + rd lens (k : Int) := IntWalk.wrap64_in _ (by have := HX.out.1; omega); rw [hw8]; clear hw8; obtain ⟨v8, hv8⟩ : ∃ v8, usedN lens x d k + rd lens (k : Int) = v8 := ⟨_, rfl⟩; rw [hv8]; have HO8 := Aside0.mk (Kd.R_putn (Kd.R_below HO.out (below_drew1 (Below.refl _ _))) d v8); have HK8 : Aside0 (KB (fun _ => False) Wb (wr.drew.setCell ⟨Wb.heap.size, d.toNat, none⟩ (.int .i64 v8))) := ⟨KB.step (hkr.trans (KB.of_below (below_drew1 (Below.refl _ _)))) (KB.setCell (M := fun k => k = Wb.heap.size) _ _ _ rfl) (fun i hi e => by omega)⟩; have HV8 := Aside0.mk hv8; have hf8 : wr.drew.frozen? ⟨Wb.heap.size, d.toNat, none⟩ = false := z6f; clear hkr hv8; refine last_ (i := 11) (N := none) #[true, true, true, true, true, true, true, true, true, true, true, true] rfl rfl (by kernel_rfl) (by decide) (fun K hK => ?_); refine skip_ (w1 := wr.drew.setCell ⟨Wb.heap.size, d.toNat, none⟩ (.int .i64 v8)) (by rfl) rfl ?_ ?_
        · go_simp
        refine hK.out _ _ ?_; clear hK K; refine done_ (by kernel_rfl) ?_; simp only [onlyN]; generalize hw8 : wr.drew.setCell ⟨Wb.heap.size, d.toNat, none⟩ (.int .i64 v8) = w8 at HO8 HK8 ⊢; clear hw8 hHeld z1 z2 z3 z4 z5 z6 z6f hf8; have hb8 : Below w.heap.size w w8 := HB.out.1.trans (HK8.out.below hwb (fun _ _ h => h)); have z2 : w8.cell? ⟨S0, 3, none⟩ = some (.slice (some ad3) lens.length c3) := (blk_cell ((hb8.block _ hlS).trans hS) 3).trans rfl; have z3 : w8.cell? ⟨C0, 0, none⟩ = some (.slice (some adc) cl.length c1) := (blk_cell ((hb8.block _ hlC).trans hC) 0).trans rfl; obtain ⟨ad3', e3', z4⟩ := Kd.at_int (Kd.C_below hr3 hb8) (k : Int) p1 p3; obtain ⟨adc', ec', -, z5, -⟩ := at_T123 (Kd.C_below hr1 hb8) d hdr.1 hdr.2
        cases e3'
        cases ec'
        rw [Int.toNat_natCast] at z4
        gi_wp2
        refine startR_ (m := 14) (S := fun w' => w'.cell? ⟨S0, 3, none⟩ = some (.slice (some ad3) lens.length c3) ∧ w'.cell? (ad3.add k) = some (.int .i64 (rd lens k)) ∧ w'.cell? ⟨C0, 0, none⟩ = some (.slice (some adc) cl.length c1) ∧ w'.cell? ⟨(adc.add (d.toNat * 3)).block, (adc.add (d.toNat * 3)).off + 1, none⟩ = some (.int .i64 (rd_T123 cl d).f1)) (ds := []) #[false, false, false, false, false, false, false, false, false, false, false, false, false, false] hmix (by kernel_rfl) rfl rfl ⟨z2, z4, z3, z5⟩ (fun hHeld => ?_); refine pure_ (i := 0) (N := (some 39)) (v := ?_) (a' := ?_) #[true, false, false, false, false, false, false, false, false, false, false, false, false, false] rfl rfl (by kernel_rfl) (fun _ _ _ h => h) (Or.inl ⟨by rfl, ?_⟩) ?_ ?_; rotate_left
        · intro w'
          go_simp
          with_reducible rfl
        rotate_left
        · simp only [Act.put, List.setIfInBounds_toArray, List.set_cons_zero, List.set_cons_succ, i64_w, i32_w]
          rfl
        refine pure_ (i := 1) (N := (some 40)) (v := ?_) (a' := ?_) #[true, true, false, false, false, false, false, false, false, false, false, false, false, false] rfl rfl (by kernel_rfl) (fun _ _ _ h => h) (Or.inl ⟨by rfl, ?_⟩) ?_ ?_; rotate_left
        · intro w'
          go_simp
          with_reducible rfl
        rotate_left
        · simp only [Act.put, List.setIfInBounds_toArray, List.set_cons_zero, List.set_cons_succ, i64_w, i32_w]
          rfl
        refine take_ (i := 2) (N := (some 41)) (v := ?_) (a' := ?_) #[true, true, true, false, false, false, false, false, false, false, false, false, false, false] rfl rfl (by kernel_rfl) (fun _ _ _ h => h) (Or.inl ⟨by rfl, ?_⟩) hHeld ?_ ?_; rotate_left
        · rintro w' ⟨s0, s1, s2, s3⟩
          go_simp
          with_reducible rfl
        rotate_left
        · simp only [Act.put, List.setIfInBounds_toArray, List.set_cons_zero, List.set_cons_succ, i64_w, i32_w]
          rfl
        refine pure_ (i := 3) (N := (some 42)) (v := ?_) (a' := ?_) #[true, true, true, true, false, false, false, false, false, false, false, false, false, false] rfl rfl (by kernel_rfl) (fun _ _ _ h => h) (Or.inl ⟨by rfl, ?_⟩) ?_ ?_; rotate_left
        · intro w'
          go_simp
          with_reducible rfl
        rotate_left
        · simp only [Act.put, List.setIfInBounds_toArray, List.set_cons_zero, List.set_cons_succ, i64_w, i32_w]
          rfl
        refine pure_ (i := 4) (N := (some 43)) (v := ?_) (a' := ?_) #[true, true, true, true, true, false, false, false, false, false, false, false, false, false] rfl rfl (by kernel_rfl) (fun _ _ _ h => h) (Or.inl ⟨by rfl, ?_⟩) ?_ ?_; rotate_left
        · intro w'
          go_simp
          with_reducible rfl
        rotate_left
        · simp only [Act.put, List.setIfInBounds_toArray, List.set_cons_zero, List.set_cons_succ, i64_w, i32_w]
          rfl
        refine take_ (i := 5) (N := (some 44)) (v := ?_) (a' := ?_) #[true, true, true, true, true, true, false, false, false, false, false, false, false, false] rfl rfl (by kernel_rfl) (fun _ _ _ h => h) (Or.inl ⟨by rfl, ?_⟩) hHeld ?_ ?_; rotate_left
        · rintro w' ⟨s0, s1, s2, s3⟩
          go_simp
          with_reducible rfl
        rotate_left
        · simp only [Act.put, List.setIfInBounds_toArray, List.set_cons_zero, List.set_cons_succ, i64_w, i32_w]
          rfl
        refine take_ (i := 6) (N := (some 45)) (v := ?_) (a' := ?_) #[true, true, true, true, true, true, true, false, false, false, false, false, false, false] rfl rfl (by kernel_rfl) (fun _ _ _ h => h) (Or.inl ⟨by rfl, ?_⟩) hHeld ?_ ?_; rotate_left
        · rintro w' ⟨s0, s1, s2, s3⟩
          go_simp
          with_reducible rfl
        rotate_left
        · simp only [Act.put, List.setIfInBounds_toArray, List.set_cons_zero, List.set_cons_succ, i64_w, i32_w]
          rfl
        refine pure_ (i := 7) (N := (some 46)) (v := ?_) (a' := ?_) #[true, true, true, true, true, true, true, true, false, false, false, false, false, false] rfl rfl (by kernel_rfl) (fun _ _ _ h => h) (Or.inl ⟨by rfl, ?_⟩) ?_ ?_; rotate_left
        · intro w'
          go_simp
          with_reducible rfl
        rotate_left
        · simp only [Act.put, List.setIfInBounds_toArray, List.set_cons_zero, List.set_cons_succ, i64_w, i32_w]
          rfl
        refine pure_ (i := 8) (N := (some 47)) (v := ?_) (a' := ?_) #[true, true, true, true, true, true, true, true, true, false, false, false, false, false] rfl rfl (by kernel_rfl) (fun _ _ _ h => h) (Or.inl ⟨by rfl, ?_⟩) ?_ ?_; rotate_left
        · intro w'
          go_simp
          with_reducible rfl
        rotate_left
        · simp only [Act.put, List.setIfInBounds_toArray, List.set_cons_zero, List.set_cons_succ, i64_w, i32_w]
          rfl
        refine pure_ (i := 9) (N := (some 48)) (v := ?_) (a' := ?_) #[true, true, true, true, true, true, true, true, true, true, false, false, false, false] rfl rfl (by kernel_rfl) (fun _ _ _ h => h) (Or.inl ⟨by rfl, ?_⟩) ?_ ?_; rotate_left
        · intro w'
          go_simp
          with_reducible rfl
        rotate_left
        · simp only [Act.put, List.setIfInBounds_toArray, List.set_cons_zero, List.set_cons_succ, i64_w, i32_w]
          rfl
        refine take_ (i := 10) (N := (some 49)) (v := ?_) (a' := ?_) #[true, true, true, true, true, true, true, true, true, true, true, false, false, false] rfl rfl (by kernel_rfl) (fun _ _ _ h => h) (Or.inl ⟨by rfl, ?_⟩) hHeld ?_ ?_; rotate_left
        · rintro w' ⟨s0, s1, s2, s3⟩
          go_simp
          with_reducible rfl
        rotate_left
        · simp only [Act.put, List.setIfInBounds_toArray, List.set_cons_zero, List.set_cons_succ, i64_w, i32_w]
          rfl
        refine pure_ (i := 11) (N := (some 50)) (v := ?_) (a' := ?_) #[true, true, true, true, true, true, true, true, true, true, true, true, false, false] rfl rfl (by kernel_rfl) (fun _ _ _ h => h) (Or.inl ⟨by rfl, ?_⟩) ?_ ?_; rotate_left
        · intro w'
          go_simp
          with_reducible rfl
        rotate_left
        · simp only [Act.put, List.setIfInBounds_toArray, List.set_cons_zero, List.set_cons_succ, i64_w, i32_w]
          rfl
        refine pure_ (i := 12) (N := (some 51)) (v := ?_) (a' := ?_) #[true, true, true, true, true, true, true, true, true, true, true, true, true, false] rfl rfl (by kernel_rfl) (fun _ _ _ h => h) (Or.inl ⟨by rfl, ?_⟩) ?_ ?_; rotate_left
        · intro w'
          go_simp
          with_reducible rfl
        rotate_left
        · simp only [Act.put, List.setIfInBounds_toArray, List.set_cons_zero, List.set_cons_succ, i64_w, i32_w]
          rfl
        refine pure_ (i := 13) (N := (some 6)) (v := ?_) (a' := ?_) #[true, true, true, true, true, true, true, true, true, true, true, true, true, true] rfl rfl (by kernel_rfl) (fun _ _ _ h => h) (Or.inl ⟨by rfl, ?_⟩) ?_ ?_; rotate_left
        · intro w'
          go_simp
          with_reducible rfl
        rotate_left
        · simp only [Act.put, List.setIfInBounds_toArray, List.set_cons_zero, List.set_cons_succ, i64_w, i32_w]
          rfl
        refine done_ (by kernel_rfl) ?_; simp only [onlyN]
        have HP9 : Aside0 (wrap64 (priceN lens cl x k + wrap64 (rd lens (k : Int) * (rd_T123 cl d).f1)) = priceN lens cl x (k + 1)) := ⟨by
          have h3 := ck.at_ d hdr.1 hdr.2; have h4 : 0 ≤ rd lens (k : Int) * (rd_T123 cl d).f1 := Int.mul_nonneg (by omega) (by omega); have h5 : rd lens (k : Int) * (rd_T123 cl d).f1 ≤ 100 * 100 := Int.mul_le_mul (by omega) (by omega) (by omega) (by omega); have h6 := price_range si ck HX.out.1 HXR.out k (by have := HX.out.1; omega); have := HX.out.1; rw [IntWalk.wrap64_in (rd lens (k : Int) * _) (by omega), IntWalk.wrap64_in _ (by omega)]
          show _ = priceN lens cl x k + rd lens (k : Int) * (rd_T123 cl (rd x (k : Int))).f1
          rw [HD.out]⟩
        rw [HP9.out]; generalize hw9 : w8.drew = w9
        have HO9 : Aside0 (OwnI w9 Wb.heap.size (.slice (some ⟨Wb.heap.size, 0, none⟩) cl.length cl.length) (usedL lens x cl.length (k + 1))) := ⟨by
          rw [← hw9, usedL_succ lens x cl.length k (by rw [HD.out]; exact hdr.1) (by rw [HD.out]; exact hdr.2), HD.out, HV8.out]
          exact Kd.R_below HO8.out (below_drew1 (Below.refl _ _))⟩
        have HK9 : Aside0 (KB (fun _ => False) Wb w9) := ⟨by rw [← hw9]; exact HK8.out.trans (KB.of_below (below_drew1 (Below.refl _ _)))⟩; clear hw9 hHeld
        gi_wp2
        go_roundw
        case rel => exact ⟨k + 1, rfl, (by rw [Int.natCast_add, Int.natCast_one]), ⟨by omega⟩, HO9, HK9⟩
        case measure => simp [intOf]; omega
      · obtain rfl : k = x.length := by have := HK.out; omega
        have cc3 : decide ((x.length : Int) < (x.length : Int)) = false := decide_eq_false (by omega); have hkr := HKB.out; have hwb : w.heap.size ≤ Wb.heap.size := HB.out.1.size; have HBR : Aside0 (Below w.heap.size w wr) := ⟨HB.out.1.trans (hkr.below hwb (fun _ _ h => h))⟩; clear hkr hwb; have z3 : wr.cell? ⟨C0, 0, none⟩ = some (.slice A1 cl.length c1) := (blk_cell ((HBR.out.block _ hlC).trans hC) 0).trans rfl
        gi_wp2
        gi_loop [55] (fun v55 => ∃ j : Nat, v55 = .int .i64 (j : Int) ∧ Aside0 (j ≤ cl.length) ∧ Aside0 (∀ i : Nat, i < j → usedN lens x (i : Int) x.length ≤ (rd_T123 cl (i : Int)).f2)) (fun v => cl.length - (intOf v).toNat)
        case atStart => exact ⟨0, rfl, ⟨Nat.zero_le _⟩, ⟨fun i hi => absurd hi (by omega)⟩⟩
        case round =>
          obtain ⟨j, rfl, HJ2, HSt⟩ := hrel; clear cc3
          by_cases hj : j < cl.length
          · have p1 : (0 : Int) ≤ (j : Int) := by omega
            have p2 : (j : Int) < (cl.length : Int) := by omega
            obtain ⟨zu, -⟩ := Kd.R_celln (0 : Int) HO.out (j : Int) p1 p2; rw [show rdOf (0 : Int) (usedL lens x cl.length x.length) (j : Int) = usedN lens x (j : Int) x.length from usedL_at lens x cl.length x.length p1 p2, Int.toNat_natCast] at zu; obtain ⟨adc, ec, -, -, zs⟩ := at_T123 (Kd.C_below hr1 HBR.out) (j : Int) p1 p2; rw [Int.toNat_natCast] at zs; subst ec; have q1 := eq_true p1; have q2 := eq_true p2; have cc4 : decide ((j : Int) < (cl.length : Int)) = true := decide_eq_true p2
            by_cases hst : (rd_T123 cl (j : Int)).f2 < usedN lens x (j : Int) x.length
            · have cc5 : decide ((rd_T123 cl (j : Int)).f2 < usedN lens x (j : Int) x.length) = true := decide_eq_true hst
              have HNS : Aside0 (suffB a b pts lens cl x = false) := ⟨by
                have : stockB lens cl x = false := by
                  unfold stockB; rw [List.all_eq_false]; exact ⟨j, List.mem_range.2 hj, by simp; omega⟩
                unfold suffB; rw [this]; rfl⟩
              gi_wp2
              exact HEnd.out _ HKB.out HNS.out
            · have cc5 : decide ((rd_T123 cl (j : Int)).f2 < usedN lens x (j : Int) x.length) = false := decide_eq_false hst
              gi_wp2
              go_round
              case rel => exact ⟨j + 1, (by rw [Int.natCast_add, Int.natCast_one]), ⟨by omega⟩, ⟨fun i hi => by
                by_cases e : i = j
                · subst e; omega
                · exact HSt.out i (by omega)⟩⟩
              case measure => simp [intOf]; omega
          · obtain rfl : j = cl.length := by have := HJ2.out; omega
            have cc4 : decide ((cl.length : Int) < (cl.length : Int)) = false := decide_eq_false (by omega)
            have HStk : Aside0 (stockB lens cl x = true) := ⟨by
              unfold stockB; rw [List.all_eq_true]; intro i hi; rw [decide_eq_true_eq]
              exact HSt.out i (List.mem_range.1 hi)⟩
            have hSr := (HBR.out.block _ hlS).trans hS; have x0 : wr.cell? ⟨S0, 0, none⟩ = some (.int .i64 a) := (blk_cell hSr 0).trans rfl; have x1 : wr.cell? ⟨S0, 1, none⟩ = some (.int .i64 b) := (blk_cell hSr 1).trans rfl; have x2 : wr.cell? ⟨S0, 2, none⟩ = some (.slice A2 pts.length c2) := (blk_cell hSr 2).trans rfl; have x3 : wr.cell? ⟨S0, 3, none⟩ = some (.slice A3 lens.length c3) := (blk_cell hSr 3).trans rfl; have HOX : Aside0 (OwnI wr (W.heap.size + 9) (.slice (some ⟨g, 0, none⟩) x.length cx) x) := ⟨HJ.out.2.2.kb HKB.out (fun _ h => h.elim)⟩; have hL := bursts_eq si HX.out.1 HXR.out 100 (by omega); have CB := channel_bursts.calls 100 a b A2 c2 pts A3 c3 lens A1 c1 cl (some ⟨g, 0, none⟩) cx x _ wr (Kd.C_below hr2 HBR.out) hc2 (Kd.C_below hr3 HBR.out) hc3 (Kd.C_below hr1 HBR.out) hc1 (Kd.R_reads' HOX.out).2.2 HX.out.2.2.2 hL; have HYR : Aside0 (wr.heap[W.heap.size]? = some (.cells #[.func (.yield l) #[] #[]] 154 (0, 0))) := ⟨HKB.out.at HJ.out.2.1 id⟩; have HJR : Aside0 (J (filtP a b pts lens cl pre) wr) := ⟨hJ _ _ _ HJ.out.1 (by have := HS.out.1; omega) (HKB.out.mono (fun _ _ h => h.elim))⟩; clear hL hSr
            by_cases hbe : burstL a b pts cl x lens.length = []
            · have HSF : Aside0 (suffB a b pts lens cl x = true) := ⟨by unfold suffB; rw [HStk.out, hbe]; rfl⟩; rw [hbe] at CB; clear hbe
              gi_wp2
              refine ⟨trivial, (fun h => by cases h), ?_⟩; refine (callsIn_wide_r CB).mono ?_; rintro e w5 ⟨v0, rfl, hR5, hb5⟩; obtain ⟨Av, cv, ev⟩ := Kd.R_slice hR5; subst ev; have hk5 : KB (fun _ => False) wr w5 := KB.of_below hb5; have zy : w5.cell? ⟨W.heap.size, 0, none⟩ = some (.func (.yield l) #[] #[]) := (blk_cell (hk5.at HYR.out id) 0).trans rfl; obtain ⟨fn_, tmps_, assign_, body_, hy_, hR_⟩ := hY (filtP a b pts lens cl pre) (x, priceN lens cl x x.length) #[.agg #[.slice (some ⟨g, 0, none⟩) x.length cx, .int .i64 (priceN lens cl x x.length)]] w5 (hJ _ _ _ HJR.out (by have := HS.out.1; have := HKB.out.size; omega) (hk5.mono (fun _ _ h => h.elim))) (by have := HS.out.1; have := HKB.out.size; have := hk5.size; omega) ⟨_, rfl, HOX.out.kb hk5 (fun _ h => h.elim)⟩ (filtP_rest HS.out.2.1 HSF.out); have H5 := Aside0.mk hk5; clear hk5 hb5 hR5 CB
              gi_wp2
              refine ⟨(fun h => by cases h), ?_⟩; refine RoundIn.mono (show RoundIn (Fence.wide.inRound l') _ _ _ _ _ _ _ _ _ from RoundIn.any_n hR_) ?_; rintro e w6 ⟨rfl, hJ6, hk6⟩
              gi_wp2
              have hk56 : KB M Wb w6 := ((HKB.out.trans H5.out).mono (fun _ _ h => h.elim)).trans hk6; have e : filtP a b pts lens cl (pre ++ [x]) = filtP a b pts lens cl pre ++ [(x, priceN lens cl x x.length)] := by rw [filtP_snoc, if_pos HSF.out]
              refine ⟨hk56, ?_, hk56.at HJ.out.2.1 (fun h => by have := (hM _ h).1; omega), HB.out.1.trans (hk56.below HB.out.1.size (fun k hk h => (hM k h).2 hk))⟩; rw [e]; exact hJ6
            · have HSF : Aside0 (suffB a b pts lens cl x = false) := ⟨by
                unfold suffB; rw [HStk.out, Bool.true_and]
                cases hbl : burstL a b pts cl x lens.length with
                | nil => exact absurd hbl hbe
                | cons => rfl⟩
              gi_wp2
              refine ⟨trivial, (fun h => by cases h), ?_⟩; refine (callsIn_wide_r CB).mono ?_; rintro e w5 ⟨v0, rfl, hR5, hb5⟩; obtain ⟨Av, cv, ev⟩ := Kd.R_slice hR5; subst ev; have hlen : ¬ (burstL a b pts cl x lens.length).length = 0 := fun h => hbe (List.eq_nil_of_length_eq_zero h); generalize (burstL a b pts cl x lens.length).length = m5 at hlen hR5 ⊢; have h3' : ((m5 : Int) == 0) = false := by rw [beq_eq_false_iff_ne]; omega
              have h3e : ((m5 : Int) = 0) = False := eq_false (by omega); have h3n : (m5 = 0) = False := eq_false hlen; have H5 : Aside0 (KB (fun _ => False) wr w5) := ⟨KB.of_below hb5⟩; clear hb5 hR5 CB hbe hlen
              gi_wp2
              (repeat (refine ⟨(fun f h => by cases h), ?_⟩; gi_wp2)); exact HEnd.out _ (HKB.out.trans H5.out) HSF.out
end Go.Proofs.YtdmdahafiiggiaaGreatDoor.K
end
section
namespace Go.Proofs.YtdmdahafiiggiaaGreatDoor.K
open Go.RowKit Go.Shelf Go.Proofs.YtdmdahafiiggiaaGreatDoorW.PrintWords Go.Proofs.YtdmdahafiiggiaaGreatDoorW.PrintLast Go.Proofs.YtdmdahafiiggiaaGreatDoorW.PrintMore
attribute [local go_sem] Oper.semAt_some
set_option maxRecDepth 100000 in
set_option maxHeartbeats 1000000 in
theorem Pipes1_any (A B : Option Addr) (n m c d : Nat) (p q : Int) (w : World) :
    Calls Tryz.prog 95 #[.agg #[.slice A n c, .int .i64 p], .agg #[.slice B m d, .int .i64 q]] w fun e w' => e = .returned (.bool (decide (p < q))) ∧ Below w.heap.size w w' := by
  have hu1 := Tryz.underlying125
  go_enter Tryz.func95, Tryz.ntmps95
  go_wp2; go_ret; exact ⟨rfl, ((Below.refl _ _).alloc (Nat.le_refl _) _).alloc (by simp) _⟩
def stepP (o : Option (List Int × Int)) (x : List Int × Int) : Option (List Int × Int) := match o with
  | none => some x
  | some y => if x.2 < y.2 then some x else some y
def bestP (l : List (List Int × Int)) : Option (List Int × Int) := l.foldl stepP none
theorem bestP_snoc (l : List (List Int × Int)) (x : List Int × Int) : bestP (l ++ [x]) = stepP (bestP l) x := by simp [bestP, List.foldl_append]
def BestIs (o : Option (List Int × Int)) (w w' : World) (A : Option Addr) (n c : Nat) (p : Int) (m : Bool) : Prop := match o with
  | none => m = false
  | some y => m = true ∧ n = y.1.length ∧ p = y.2 ∧ OwnI w' w.heap.size (.slice A n c) y.1
def BestPost (o : Option (List Int × Int)) (w : World) (e : Ending) (w' : World) : Prop :=
  (∃ A n c p m, e = .returned (.tuple #[.agg #[.slice A n c, .int .i64 p], .bool m]) ∧ BestIs o w w' A n c p m) ∧ Below w.heap.size w w'
structure BestI (w : World) (B b : Nat) (pre : List (List Int × Int)) (W : World) : Prop where
  f : W.heap[B]? = some (.cells #[.func (.func 95) #[] #[]] 131 (0, 0))
  r : W.heap[B + 1]? = some (.cells #[.slice none 0 0, .int .i64 0] 125 (0, 0))
  no : bestP pre = none → W.heap[B + 2]? = some (.cells #[.slice none 0 0, .int .i64 0] 125 (0, 0)) ∧ W.heap[B + 3]? = some (.cells #[.bool false] 4 (0, 0))
  yes : ∀ y, bestP pre = some y → W.heap[B + 3]? = some (.cells #[.bool true] 4 (0, 0)) ∧ ∃ A c, W.heap[B + 2]? = some (.cells #[.slice A y.1.length c, .int .i64 y.2] 125 (0, 0)) ∧ OwnI W b (.slice A y.1.length c) y.1
  bel : Below w.heap.size w W
theorem BestI.kb {w W W1 : World} {B b : Nat} {pre : List (List Int × Int)} {M : Nat → Prop} (h : BestI w B b pre W) (hk : KB M W W1) (hw : w.heap.size ≤ B) (hM : ∀ k, M k → B + 4 ≤ k ∧ k < b) : BestI w B b pre W1 where
  f := hk.at h.f fun e => by have := (hM _ e).1; omega
  r := hk.at h.r fun e => by have := (hM _ e).1; omega
  no e := ⟨hk.at (h.no e).1 fun e => by have := (hM _ e).1; omega, hk.at (h.no e).2 fun e => by have := (hM _ e).1; omega⟩
  yes y e := by
    obtain ⟨h1, A, c, h2, h3⟩ := h.yes y e; exact ⟨hk.at h1 fun e => by have := (hM _ e).1; omega, A, c, hk.at h2 fun e => by have := (hM _ e).1; omega, h3.kb hk fun k e => (hM k e).2⟩
  bel := h.bel.trans (hk.below h.bel.size fun k hkk e => by have := (hM _ e).1; omega)
theorem BestI.put {w W : World} {B b : Nat} {pre : List (List Int × Int)} {x : List Int × Int} {A : Option Addr} {c : Nat} (h : BestI w B b pre W) (hw : w.heap.size ≤ B) (hb : B + 4 ≤ b) (hs : stepP (bestP pre) x = some x) (ho : OwnI W b (.slice A x.1.length c) x.1)
    (v2 v3 : Value) (s0 : Value) (h2 : W.heap[B + 2]? = some (.cells #[v2, v3] 125 (0, 0))) (h3 : W.heap[B + 3]? = some (.cells #[s0] 4 (0, 0))) :
    BestI w B b (pre ++ [x]) (((W.setCell ⟨B + 2, 0, none⟩ (.slice A x.1.length c)).setCell ⟨B + 2, 1, none⟩ (.int .i64 x.2)).setCell ⟨B + 3, 0, none⟩ (.bool true)) ∧ KB (fun k => k = B + 2 ∨ k = B + 3) W (((W.setCell ⟨B + 2, 0, none⟩ (.slice A x.1.length c)).setCell ⟨B + 2, 1, none⟩ (.int .i64 x.2)).setCell ⟨B + 3, 0, none⟩ (.bool true)) := by
  have hk : KB (fun k => k = B + 2 ∨ k = B + 3) W (((W.setCell ⟨B + 2, 0, none⟩ (.slice A x.1.length c)).setCell ⟨B + 2, 1, none⟩ (.int .i64 x.2)).setCell ⟨B + 3, 0, none⟩ (.bool true)) :=
    ((KB.setCell _ _ _ (.inl rfl)).trans (KB.setCell _ _ _ (.inl rfl))).trans (KB.setCell _ _ _ (.inr rfl))
  refine ⟨{ f := hk.at h.f (fun e => by omega), r := hk.at h.r (fun e => by omega), no := fun e => (by rw [bestP_snoc, hs] at e; cases e), yes := fun y e => ?_, bel := h.bel.trans (hk.below h.bel.size fun k hkk e => by omega) }, hk⟩; rw [bestP_snoc, hs] at e; obtain rfl := Option.some.inj e; refine ⟨blk_put (blk_far (blk_far h3 (by show B + 3 ≠ B + 2; omega) _) (by show B + 3 ≠ B + 2; omega) _) 0 _ rfl, A, c, blk_far (blk_put (blk_put h2 0 _ rfl) 1 _ rfl) (by show B + 2 ≠ B + 3; omega) _, ho.kb hk (fun k e => by omega)⟩
theorem BestI.same {w W : World} {B b : Nat} {pre : List (List Int × Int)} {x : List Int × Int} (h : BestI w B b pre W) (hs : stepP (bestP pre) x = bestP pre) : BestI w B b (pre ++ [x]) W where
  f := h.f
  r := h.r
  no e := h.no (by rw [bestP_snoc, hs] at e; exact e)
  yes y e := h.yes y (by rw [bestP_snoc, hs] at e; exact e)
  bel := h.bel
set_option maxRecDepth 100000 in
set_option maxHeartbeats 2000000 in
theorem best_any (S0 C0 : Nat) (a b : Int) (A2 A3 A1 : Option Addr) (c2 c3 c1 : Nat) (pts : List S30) (lens : List Int) (cl : List S123) (w : World) (hsi : isSiphonB a b pts lens = true) (hcl : areClassesB cl = true)
    (hS : w.heap[S0]? = some (.cells #[.int .i64 a, .int .i64 b, .slice A2 pts.length c2, .slice A3 lens.length c3] 78 (0, 0))) (hC : w.heap[C0]? = some (.cells #[.slice A1 cl.length c1] 84 (0, 0)))
    (hr2 : Kd.C k30 w A2 pts.length pts) (hc2 : pts.length ≤ c2) (hr3 : Kd.C (Kd.int .i64) w A3 lens.length lens) (hc3 : lens.length ≤ c3) (hr1 : Kd.C k123 w A1 cl.length cl) (hc1 : cl.length ≤ c1) :
    Calls Tryz.prog 93 #[.func (.func 117) #[] #[.pointer (some ⟨S0, 0, none⟩), .pointer (some ⟨C0, 0, none⟩)], .func (.func 95) #[] #[]] w fun e w' =>
      BestPost (bestP (filtP a b pts lens cl (tails cl.length lens.length))) w e w' := by
  refine (callsIn_wide (n := 5)).1 ?_; have hu1 := Tryz.underlying125; refine callsIn_of_wp_marks Tryz.func93 rfl trivial ?_ rfl; simp only [Tryz.ntmps93, List.size_toArray, List.length_cons, List.length_nil, Nat.reduceAdd, Nat.reduceSub, Array.replicate_succ, Array.replicate_zero, List.push_toArray, List.append_toArray, List.nil_append, List.cons_append]
  gi_wp2
  generalize hW4 : World.alloc (World.alloc (World.alloc (World.alloc w _) _) _) _ = W4; have hk4 : ∀ N : Nat → Prop, KB N w W4 := fun N => by rw [← hW4]; exact ((KB.alloc w _).trans (KB.alloc _ _)).trans ((KB.alloc _ _).trans (KB.alloc _ _))
  have hz4 : W4.heap.size = w.heap.size + 4 := by rw [← hW4]; simp
  have hB4 : Below w.heap.size w W4 := (hk4 (fun _ => False)).below (Nat.le_refl _) (fun _ _ h => h)
  have h0 : BestI w w.heap.size (w.heap.size + 15) [] W4 := by
    have n0 := blk_new w (.cells #[.func (.func 95) #[] #[]] 131); have n1 := blk_new (w.alloc (.cells #[.func (.func 95) #[] #[]] 131)) (.cells #[.slice none 0 0, .int .i64 0] 125); have n2 := blk_new ((w.alloc (.cells #[.func (.func 95) #[] #[]] 131)).alloc (.cells #[.slice none 0 0, .int .i64 0] 125)) (.cells #[.slice none 0 0, .int .i64 0] 125); have n3 := blk_new (((w.alloc (.cells #[.func (.func 95) #[] #[]] 131)).alloc (.cells #[.slice none 0 0, .int .i64 0] 125)).alloc (.cells #[.slice none 0 0, .int .i64 0] 125)) (.cells #[.bool false] 4); simp only [World.size_alloc] at n0 n1 n2 n3; rw [← hW4]
    exact {
      f := blk_alloc (blk_alloc (blk_alloc n0 _) _) _
      r := blk_alloc (blk_alloc n1 _) _
      no := fun _ => ⟨blk_alloc n2 _, n3⟩
      yes := fun y e => by cases e
      bel := by rw [hW4]; exact hB4 }
  clear hW4; have hseq := enough1_seq 4 (by omega) S0 C0 a b A2 A3 A1 c2 c3 c1 pts lens cl w hsi hcl hS hC hr2 hc2 hr3 hc3 hr1 hc1
  refine wpIn_rangeM rfl (by omega) (gf := 117) rfl trivial (enters_of Tryz.func117 (by kernel_rfl) rfl) hseq (fun k => k = w.heap.size + 2 ∨ k = w.heap.size + 3) (hk4 _) (fun k hk => hk) (fun k hk => ⟨by rcases hk with rfl | rfl <;> omega, by rcases hk with rfl | rfl <;> omega⟩) (fun B W x v h => by obtain ⟨sl, rfl, _⟩ := h; rfl)
    (fun pre W' => BestI w w.heap.size (w.heap.size + 15) pre W')
    (fun pre x a₁ W' => BestI w w.heap.size (w.heap.size + 15) pre W' ∧ ∃ A c X, a₁ = { tmps := #[.func (.func 117) #[] #[.pointer (some ⟨S0, 0, none⟩), .pointer (some ⟨C0, 0, none⟩)], .func (.func 95) #[] #[], undef, .pointer (some ⟨w.heap.size, 0, none⟩), .pointer (some ⟨w.heap.size + 1, 0, none⟩), .bool false, .pointer (some ⟨w.heap.size + 1 + 1, 0, none⟩), .pointer (some ⟨w.heap.size + 1 + 1 + 1, 0, none⟩), .pointer (some ⟨X, 0, none⟩), .func (.func 117) #[] #[.pointer (some ⟨S0, 0, none⟩), .pointer (some ⟨C0, 0, none⟩)], .agg #[.slice A x.1.length c, .int .i64 x.2], undef, undef, undef, undef, undef, undef, undef, undef, undef, undef, undef], defers := [] } ∧ OwnI W' (w.heap.size + 15) (.slice A x.1.length c) x.1 ∧ W'.heap[X]? = some (.cells #[.slice A x.1.length c, .int .i64 x.2] 125 (0, 0)) ∧ w.heap.size + 15 ≤ X)
    ?sI ?sM h0 ?assign ?body ?done
  case sI =>
    intro pre A A' hI hs hk; exact hI.kb hk (Nat.le_refl _) (fun k h => ⟨by omega, by omega⟩)
  case sM =>
    rintro pre x a1 A A' ⟨hI, Ax, c, X, rfl, ho, hX, hXl⟩ hs hk; exact ⟨hI.kb hk (Nat.le_refl _) (fun k h => ⟨by omega, by omega⟩), Ax, c, X, rfl, ho.kb hk (fun k h => by omega), hk.at hX (fun h => by omega), hXl⟩
  case assign =>
    rintro l' pre x v W' hI hs ⟨sl, rfl, ho⟩ hrest; obtain ⟨Ax, c, rfl⟩ := Kd.R_slice ho; rw [hz4] at ho hs
    gi_wp2
    exact ⟨KB.alloc _ _, hI.kb (KB.alloc (M := fun _ => False) _ _) (Nat.le_refl _) (fun _ h => h.elim), Ax, c, _, rfl, Kd.R_alloc ho _, blk_new _ _, by omega⟩
  case done =>
    rintro W' hI hk hD
    obtain ⟨A, m5, c, p5, b5, h2, h3, hm5⟩ : ∃ A m5 c p5 b5, W'.heap[w.heap.size + 2]? = some (.cells #[.slice A m5 c, .int .i64 p5] 125 (0, 0)) ∧ W'.heap[w.heap.size + 3]? = some (.cells #[.bool b5] 4 (0, 0)) ∧
        (match bestP (filtP a b pts lens cl (tails cl.length lens.length)) with
        | none => b5 = false
        | some y => b5 = true ∧ m5 = y.1.length ∧ p5 = y.2 ∧ OwnI W' (w.heap.size + 15) (.slice A m5 c) y.1) := by
      cases hbp : bestP (filtP a b pts lens cl (tails cl.length lens.length)) with
      | none =>
        obtain ⟨h2, h3⟩ := hI.no hbp; exact ⟨none, 0, 0, 0, false, h2, h3, rfl⟩
      | some y =>
        obtain ⟨h3, Ay, cy, h2, hoy⟩ := hI.yes y hbp; exact ⟨Ay, y.1.length, cy, y.2, true, h2, h3, rfl, rfl, rfl, hoy⟩
    have x0 : W'.cell? ⟨w.heap.size + 1 + 1, 0, none⟩ = some (.slice A m5 c) := (blk_cell h2 0).trans rfl; have x1 : W'.cell? ⟨w.heap.size + 1 + 1, 1, none⟩ = some (.int .i64 p5) := (blk_cell h2 1).trans rfl; have x2 : W'.cell? ⟨w.heap.size + 1 + 1 + 1, 0, none⟩ = some (.bool b5) := (blk_cell h3 0).trans rfl; have HR := Aside0.mk hI.r; have HBel := Aside0.mk hI.bel; have HM5 := Aside0.mk hm5; have HD := Aside0.mk (And.intro hD hk); have H23 := Aside0.mk (And.intro h2 h3); clear hI hk hD h2 h3 hm5
    gi_wp2
    refine startN_ (m := 4) (S := fun w' => w'.cell? ⟨w.heap.size + 1 + 1, 0, none⟩ = some (.slice A m5 c) ∧ w'.cell? ⟨w.heap.size + 1 + 1, 1, none⟩ = some (.int .i64 p5) ∧ w'.cell? ⟨w.heap.size + 1 + 1 + 1, 0, none⟩ = some (.bool b5)) (ds := []) #[false, false, false, false] (by kernel_rfl) rfl rfl ⟨x0, x1, x2⟩ (fun hHeld => ?_); refine take_ (i := 0) (N := (some 20)) (v := ?_) (a' := ?_) #[true, false, false, false] rfl rfl (by kernel_rfl) (fun _ _ _ h => h) (Or.inl ⟨by rfl, ?_⟩) hHeld ?_ ?_; rotate_left
    · rintro w' ⟨s0, s1, s2⟩
      go_simp
      with_reducible rfl
    rotate_left
    · simp only [Act.put, List.setIfInBounds_toArray, List.set_cons_zero, List.set_cons_succ, i64_w, i32_w]
      rfl
    refine take_ (i := 1) (N := (some 21)) (v := ?_) (a' := ?_) #[true, true, false, false] rfl rfl (by kernel_rfl) (fun _ _ _ h => h) (Or.inl ⟨by rfl, ?_⟩) hHeld ?_ ?_; rotate_left
    · rintro w' ⟨s0, s1, s2⟩
      go_simp
      with_reducible rfl
    rotate_left
    · simp only [Act.put, List.setIfInBounds_toArray, List.set_cons_zero, List.set_cons_succ, i64_w, i32_w]
      rfl
    have hDr : W'.drew.heap[W4.heap.size]? = some (.deferred (some [])) := HD.out.1; have hBd : Below w.heap.size w W'.drew := HBel.out.trans ((below_drew1 (Below.refl w.heap.size W')))
    have hMd : (match bestP (filtP a b pts lens cl (tails cl.length lens.length)) with
        | none => b5 = false
        | some y => b5 = true ∧ m5 = y.1.length ∧ p5 = y.2 ∧ OwnI W'.drew (w.heap.size + 15) (.slice A m5 c) y.1) := by
      have h := HM5.out
      revert h
      cases bestP (filtP a b pts lens cl (tails cl.length lens.length)) with
      | none => exact id
      | some y => exact fun h => ⟨h.1, h.2.1, h.2.2.1, Kd.R_drew h.2.2.2⟩
    have h23 : W'.drew.heap[w.heap.size + 2]? = some (.cells #[.slice A m5 c, .int .i64 p5] 125 (0, 0)) ∧ W'.drew.heap[w.heap.size + 3]? = some (.cells #[.bool b5] 4 (0, 0)) := H23.out; have hRd : W'.drew.heap[w.heap.size + 1]? = some (.cells #[.slice none 0 0, .int .i64 0] 125 (0, 0)) := HR.out; generalize W'.drew = wd at hDr hBd hMd hRd h23 hHeld ⊢; have zr0 : wd.cell? ⟨w.heap.size + 1, 0, none⟩ = some (.slice none 0 0) := (blk_cell hRd 0).trans rfl; have zr1 : wd.cell? ⟨w.heap.size + 1, 1, none⟩ = some (.int .i64 0) := (blk_cell hRd 1).trans rfl; have zg0 : wd.frozen? ⟨w.heap.size + 1, 0, none⟩ = false := blk_frozen hRd 0; have zg1 : wd.frozen? ⟨w.heap.size + 1, 1, none⟩ = false := blk_frozen hRd 1; have HF := Aside0.mk (And.intro hDr (And.intro hBd (And.intro hMd (And.intro hRd h23)))); clear hDr hBd hMd hRd h23; have hB1 : w.heap.size + 1 < W4.heap.size := by omega
    refine one_ (i := 2) (N := none) #[true, true, true, false] rfl rfl (by kernel_rfl) (by decide) (fun K hK => ?_); refine skip_ (w1 := (wd.setCell ⟨w.heap.size + 1, 0, none⟩ (.slice A m5 c)).setCell ⟨w.heap.size + 1, 1, none⟩ (.int .i64 p5)) (by rfl) rfl ?_ ?_
    · go_simp
    have hkS : KB (fun k => k = w.heap.size + 1) wd ((wd.setCell ⟨w.heap.size + 1, 0, none⟩ (.slice A m5 c)).setCell ⟨w.heap.size + 1, 1, none⟩ (.int .i64 p5)) := (KB.setCell (M := fun k => k = w.heap.size + 1) _ ⟨w.heap.size + 1, 0, none⟩ _ rfl).trans (KB.setCell (M := fun k => k = w.heap.size + 1) _ ⟨w.heap.size + 1, 1, none⟩ _ rfl); refine hK.out _ _ ⟨(blk_cell (hkS.at HF.out.2.2.2.2.1 (fun e => by omega)) 0).trans rfl, (blk_cell (hkS.at HF.out.2.2.2.2.1 (fun e => by omega)) 1).trans rfl, (blk_cell (hkS.at HF.out.2.2.2.2.2 (fun e => by omega)) 0).trans rfl⟩ (fun _ => ?_); clear hkS hK K; refine pure_ (i := 3) (N := (some 5)) (v := ?_) (a' := ?_) #[true, true, true, true] rfl rfl (by kernel_rfl) (fun _ _ _ h => h) (Or.inl ⟨by rfl, ?_⟩) ?_ ?_; rotate_left
    · intro w'
      go_simp
      with_reducible rfl
    rotate_left
    · simp only [Act.put, List.setIfInBounds_toArray, List.set_cons_zero, List.set_cons_succ, i64_w, i32_w]
      rfl
    refine done_ (by kernel_rfl) ?_; simp only [onlyN]; obtain ⟨hDr, hBd, hMd, hRd, -⟩ := HF.out; have hk6 : KB (fun k => k = w.heap.size + 1) wd ((wd.setCell ⟨w.heap.size + 1, 0, none⟩ (.slice A m5 c)).setCell ⟨w.heap.size + 1, 1, none⟩ (.int .i64 p5)) := (KB.setCell (M := fun k => k = w.heap.size + 1) _ ⟨w.heap.size + 1, 0, none⟩ _ rfl).trans (KB.setCell (M := fun k => k = w.heap.size + 1) _ ⟨w.heap.size + 1, 1, none⟩ _ rfl); have hR6 := blk_put (blk_put hRd 0 (.slice A m5 c) rfl) 1 (.int .i64 p5) rfl; generalize (wd.setCell ⟨w.heap.size + 1, 0, none⟩ (.slice A m5 c)).setCell ⟨w.heap.size + 1, 1, none⟩ (.int .i64 p5) = w6 at hk6 hR6 ⊢; have hD6 : w6.heap[W4.heap.size]? = some (.deferred (some [])) := hk6.at hDr (fun e => by omega); clear zr0 zr1 zg0 zg1 hHeld x0 x1 x2
    gi_wp2
    refine ⟨by simp, .inl ⟨_, _, rfl, run_takeDeferred hD6, ?_⟩⟩; have hk7 : KB (fun k => k = w.heap.size + 1 ∨ k = W4.heap.size) wd (w6.putObj W4.heap.size (.deferred none)) := (hk6.mono (fun k _ h => .inl h)).trans (KB.putObj _ _ _ fun _ => .inr rfl); have hR7 : (w6.putObj W4.heap.size (.deferred none)).heap[w.heap.size + 1]? = some (.cells #[.slice A m5 c, .int .i64 p5] 125 (0, 0)) := (World.putObj_heap_other (by omega)).trans hR6; generalize w6.putObj W4.heap.size (.deferred none) = w7 at hk7 hR7 ⊢; have zq0 : w7.cell? ⟨w.heap.size + 1, 0, none⟩ = some (.slice A m5 c) := (blk_cell hR7 0).trans rfl; have zq1 : w7.cell? ⟨w.heap.size + 1, 1, none⟩ = some (.int .i64 p5) := (blk_cell hR7 1).trans rfl; refine ⟨.tuple #[.agg #[.slice A m5 c, .int .i64 p5], .bool b5], (by simp [results, Tryz.results93, go_sem, zq0, zq1]), ⟨A, m5, c, p5, b5, rfl, ?_⟩, hBd.trans (hk7.below hBd.size (fun k hk h => by omega))⟩; unfold BestIs
    revert hMd
    cases bestP (filtP a b pts lens cl (tails cl.length lens.length)) with
    | none => exact id
    | some y => exact fun h => ⟨h.1, h.2.1, h.2.2.1, (h.2.2.2.kb hk7 (fun k e => by omega)).weak (by omega)⟩
  case body =>
    rintro l' pre x a1 W' ⟨hI, Ax, c, X, rfl, ho, hX, hXl⟩ hs hrest; have hw15 : w.heap.size + 4 ≤ w.heap.size + 15 := by omega
    have zx0 : W'.cell? ⟨X, 0, none⟩ = some (.slice Ax x.1.length c) := (blk_cell hX 0).trans rfl; have zx1 : W'.cell? ⟨X, 1, none⟩ = some (.int .i64 x.2) := (blk_cell hX 1).trans rfl
    cases hbp : bestP pre with
    | none =>
      obtain ⟨h2, h3⟩ := hI.no hbp; have zm : W'.cell? ⟨w.heap.size + 1 + 1 + 1, 0, none⟩ = some (.bool false) := (blk_cell h3 0).trans rfl; have zo0 : W'.cell? ⟨w.heap.size + 1 + 1, 0, none⟩ = some (.slice none 0 0) := (blk_cell h2 0).trans rfl; have zo1 : W'.cell? ⟨w.heap.size + 1 + 1, 1, none⟩ = some (.int .i64 0) := (blk_cell h2 1).trans rfl; have zf2 : W'.frozen? ⟨w.heap.size + 1 + 1, 0, none⟩ = false := blk_frozen h2 0; have zf3 : W'.frozen? ⟨w.heap.size + 1 + 1, 1, none⟩ = false := blk_frozen h2 1; have zf4 : W'.frozen? ⟨w.heap.size + 1 + 1 + 1, 0, none⟩ = false := blk_frozen h3 0; have HP := Aside0.mk (hI.put (Nat.le_refl _) hw15 (by rw [hbp]; rfl) ho _ _ _ h2 h3); clear hI h2 h3 ho hX hbp
      gi_wp2
      (repeat (refine ⟨(fun f h => by cases h), ?_⟩; gi_wp2)); exact ⟨HP.out.2, HP.out.1⟩
    | some y =>
      obtain ⟨h3, Ay, cy, h2, hoy⟩ := hI.yes y hbp; have zm : W'.cell? ⟨w.heap.size + 1 + 1 + 1, 0, none⟩ = some (.bool true) := (blk_cell h3 0).trans rfl; have zo0 : W'.cell? ⟨w.heap.size + 1 + 1, 0, none⟩ = some (.slice Ay y.1.length cy) := (blk_cell h2 0).trans rfl; have zo1 : W'.cell? ⟨w.heap.size + 1 + 1, 1, none⟩ = some (.int .i64 y.2) := (blk_cell h2 1).trans rfl; have zb : W'.cell? ⟨w.heap.size, 0, none⟩ = some (.func (.func 95) #[] #[]) := (blk_cell hI.f 0).trans rfl; have HI := Aside0.mk (And.intro hI (And.intro ho (And.intro hX hbp))); have zf2 : W'.frozen? ⟨w.heap.size + 1 + 1, 0, none⟩ = false := blk_frozen h2 0; clear zf2 hI h2 h3 ho hX hbp hoy
      gi_wp2
      refine ⟨trivial, ?_⟩; refine (callsIn_wide_r (Pipes1_any Ax Ay x.1.length y.1.length c cy x.2 y.2 W')).mono ?_; rintro e w5 ⟨rfl, hb5⟩; have hk5 : KB (fun _ => False) W' w5 := KB.of_below hb5; have hI := HI.out.1.kb hk5 (Nat.le_refl _) (fun _ h => h.elim); have ho := HI.out.2.1.kb hk5 (fun _ h => h.elim); have hX := hk5.at HI.out.2.2.1 id; obtain ⟨h3, Ay', cy', h2, hoy⟩ := hI.yes y HI.out.2.2.2
      by_cases hlt : x.2 < y.2
      · have zz0 : w5.cell? ⟨X, 0, none⟩ = some (.slice Ax x.1.length c) := (blk_cell hX 0).trans rfl; have zz1 : w5.cell? ⟨X, 1, none⟩ = some (.int .i64 x.2) := (blk_cell hX 1).trans rfl; have zm5 : w5.cell? ⟨w.heap.size + 1 + 1 + 1, 0, none⟩ = some (.bool true) := (blk_cell h3 0).trans rfl; have zo5 : w5.cell? ⟨w.heap.size + 1 + 1, 0, none⟩ = some (.slice Ay' y.1.length cy') := (blk_cell h2 0).trans rfl; have zp5 : w5.cell? ⟨w.heap.size + 1 + 1, 1, none⟩ = some (.int .i64 y.2) := (blk_cell h2 1).trans rfl; have zf2 : w5.frozen? ⟨w.heap.size + 1 + 1, 0, none⟩ = false := blk_frozen h2 0; have zf3 : w5.frozen? ⟨w.heap.size + 1 + 1, 1, none⟩ = false := blk_frozen h2 1; have zf4 : w5.frozen? ⟨w.heap.size + 1 + 1 + 1, 0, none⟩ = false := blk_frozen h3 0; have HP := Aside0.mk (hI.put (Nat.le_refl _) hw15 (by rw [HI.out.2.2.2]; simp [stepP, hlt]) ho _ _ _ h2 h3); have HK5 := Aside0.mk (hk5.mono (M' := fun k => k = w.heap.size + 2 ∨ k = w.heap.size + 3) (fun _ _ h => h.elim)); have cc : decide (x.2 < y.2) = true := decide_eq_true hlt; clear hI ho hX h2 h3 hoy hk5 hb5 hlt
        gi_wp2
        exact ⟨HK5.out.trans HP.out.2, HP.out.1⟩
      · have HS := Aside0.mk (hI.same (x := x) (by rw [HI.out.2.2.2]; simp [stepP, hlt])); have HK5 := Aside0.mk (hk5.mono (M' := fun k => k = w.heap.size + 2 ∨ k = w.heap.size + 3) (fun _ _ h => h.elim)); have cc : decide (x.2 < y.2) = false := decide_eq_false hlt; clear hI ho hX h2 h3 hoy hk5 hb5 hlt
        gi_wp2
        exact ⟨HK5.out, HS.out⟩
end Go.Proofs.YtdmdahafiiggiaaGreatDoor.K
end
section
namespace Go.Proofs.YtdmdahafiiggiaaGreatDoor.K
open Go.RowKit Go.Shelf Go.Proofs.YtdmdahafiiggiaaGreatDoorW.PrintWords Go.Proofs.YtdmdahafiiggiaaGreatDoorW.PrintLast Go.Proofs.YtdmdahafiiggiaaGreatDoorW.PrintMore
def pipesF (a b : Int) (pts : List S30) (lens : List Int) (cl : List S123) : List Int × Int × Int :=
  if isSiphonB a b pts lens = true ∧ areClassesB cl = true then
    match bestP (filtP a b pts lens cl (tails cl.length lens.length)) with
    | none => ([], 0, 5)
    | some y => (y.1, y.2, 0)
  else ([], 0, 2)
def PipesPost (r : List Int × Int × Int) (w : World) (e : Ending) (w' : World) : Prop :=
  ∃ v0_ : Value, e = .returned (.tuple #[v0_, .int .i64 r.2.1, .int .i64 r.2.2]) ∧ Kd.R (Kd.int .i64) 3 w' w.heap.size (fun _ => True) v0_ r.1 ∧ Below w.heap.size w w'
theorem PipesPost.mk {r : List Int × Int × Int} {w w' : World} {A : Option Addr} {n c : Nat} {p q : Int} (h : OwnI w' w.heap.size (.slice A n c) r.1) (hp : p = r.2.1) (hq : q = r.2.2) (hb : Below w.heap.size w w') : PipesPost r w (.returned (.tuple #[.slice A n c, .int .i64 p, .int .i64 q])) w' := by
  subst hp hq; exact ⟨_, rfl, h, hb⟩
set_option maxRecDepth 100000 in
set_option maxHeartbeats 2000000 in
theorem pipes_any (a b : Int) (A2 A3 A1 : Option Addr) (c2 c3 c1 : Nat) (pts : List S30) (lens : List Int) (cl : List S123) (w : World) (hl2 : pts.length ≤ 9223372036854775807) (hl3 : lens.length ≤ 9223372036854775807) (hl1 : cl.length ≤ 9223372036854775807)
    (hr2 : Kd.C k30 w A2 pts.length pts) (hc2 : pts.length ≤ c2) (hr3 : Kd.C (Kd.int .i64) w A3 lens.length lens) (hc3 : lens.length ≤ c3) (hr1 : Kd.C k123 w A1 cl.length cl) (hc1 : cl.length ≤ c1) :
    Calls Tryz.prog 50 #[.agg #[.int .i64 a, .int .i64 b, .slice A2 pts.length c2, .slice A3 lens.length c3], .slice A1 cl.length c1] w fun e w' => PipesPost (pipesF a b pts lens cl) w e w' := by
  have hu1 := Tryz.underlying78; have hu2 := Tryz.underlying125; have hmf : ∀ (fn : Fn) (first cap : Array Value) (w : World), (Instr.makeFunc fn first cap).run Tryz.prog w = .ok (.func fn first cap) w := fun _ _ _ _ => rfl; obtain ⟨w1, hw1⟩ : ∃ w1, w.alloc (.cells #[.int .i64 a, .int .i64 b, .slice A2 pts.length c2, .slice A3 lens.length c3] 78) = w1 := ⟨_, rfl⟩; have hB1 : Below w.heap.size w w1 := by rw [← hw1]; exact (Below.refl _ _).alloc (Nat.le_refl _) _
  have hbk : w1.heap[w.heap.size]? = some (.cells #[.int .i64 a, .int .i64 b, .slice A2 pts.length c2, .slice A3 lens.length c3] 78 (0, 0)) := by rw [← hw1]; exact blk_new _ _
  have CS : Aside0 (∀ W, Below w.heap.size w W → Calls Tryz.prog 87 #[.agg #[.int .i64 a, .int .i64 b, .slice A2 pts.length c2, .slice A3 lens.length c3]] W fun e w' => e = .returned (.bool (isSiphonB a b pts lens)) ∧ Below W.heap.size W w') :=
    ⟨fun W hW => channel_isSiphon.calls a b A2 c2 pts A3 c3 lens _ W (Kd.C_below hr2 hW) hc2 (Kd.C_below hr3 hW) hc3 (by unfold channel_isSiphon.f; rw [if_pos ⟨hl2, hl3⟩])⟩
  have CC : Aside0 (∀ W, Below w.heap.size w W → Calls Tryz.prog 89 #[.slice A1 cl.length c1] W fun e w' => e = .returned (.bool (areClassesB cl)) ∧ Below W.heap.size W w') :=
    ⟨fun W hW => channel_areClasses.calls A1 c1 cl _ W (Kd.C_below hr1 hW) hc1 (by unfold channel_areClasses.f; rw [if_pos hl1])⟩
  have x0 : w1.cell? ⟨w.heap.size, 0, none⟩ = some (.int .i64 a) := (blk_cell hbk 0).trans rfl; have x1 : w1.cell? ⟨w.heap.size, 1, none⟩ = some (.int .i64 b) := (blk_cell hbk 1).trans rfl; have x2 : w1.cell? ⟨w.heap.size, 2, none⟩ = some (.slice A2 pts.length c2) := (blk_cell hbk 2).trans rfl; have x3 : w1.cell? ⟨w.heap.size, 3, none⟩ = some (.slice A3 lens.length c3) := (blk_cell hbk 3).trans rfl; have HBK := Aside0.mk hbk; clear hbk
  have hcase : isSiphonB a b pts lens = false ∨ (isSiphonB a b pts lens = true ∧ areClassesB cl = false) ∨ (isSiphonB a b pts lens = true ∧ areClassesB cl = true) := by
    cases isSiphonB a b pts lens <;> cases areClassesB cl <;> simp
  rcases hcase with h1 | ⟨h1, h2⟩ | ⟨h1, h2⟩
  case inr.inr =>
    have HG : Aside0 (∀ S0 C0 W, Below w.heap.size w W → W.heap[S0]? = some (.cells #[.int .i64 a, .int .i64 b, .slice A2 pts.length c2, .slice A3 lens.length c3] 78 (0, 0)) → W.heap[C0]? = some (.cells #[.slice A1 cl.length c1] 84 (0, 0)) →
        Calls Tryz.prog 93 #[.func (.func 117) #[] #[.pointer (some ⟨S0, 0, none⟩), .pointer (some ⟨C0, 0, none⟩)], .func (.func 95) #[] #[]] W fun e w' => BestPost (bestP (filtP a b pts lens cl (tails cl.length lens.length))) W e w') :=
      ⟨fun S0 C0 W hW hS hC => best_any S0 C0 a b A2 A3 A1 c2 c3 c1 pts lens cl W h1 h2 hS hC (Kd.C_below hr2 hW) hc2 (Kd.C_below hr3 hW) hc3 (Kd.C_below hr1 hW) hc1⟩
    have HPF : Aside0 (pipesF a b pts lens cl = match bestP (filtP a b pts lens cl (tails cl.length lens.length)) with
      | none => ([], 0, 5)
      | some y => (y.1, y.2, 0)) := ⟨by unfold pipesF; rw [if_pos ⟨h1, h2⟩]⟩
    rw [h1] at CS; rw [h2] at CC; obtain ⟨PF, hPF⟩ : ∃ PF, pipesF a b pts lens cl = PF := ⟨_, rfl⟩; rw [hPF] at HPF ⊢; generalize hbo : bestP (filtP a b pts lens cl (tails cl.length lens.length)) = bo at HG HPF; clear hr1 hr2 hr3 h1 h2 hPF hbo
    go_enter Tryz.func50, Tryz.ntmps50
    go_upto_region 1 with (fail)
    try rw [hw1]
    go_wp2_with (first | (go_at_call 87; refine (CS.out _ hB1).mono ?_; rintro e w2 ⟨rfl, hb2⟩) | (go_at_call 89; refine (CC.out _ (below_step hB1 hb2)).mono ?_; rintro e w3 ⟨rfl, hb3⟩; have hb13 := below_step hb2 hb3; have hbk3 := blk_below HBK.out hb13; have z0 : w3.cell? ⟨w.heap.size, 0, none⟩ = some (.int .i64 a) := (blk_cell hbk3 0).trans rfl; have z1 : w3.cell? ⟨w.heap.size, 1, none⟩ = some (.int .i64 b) := (blk_cell hbk3 1).trans rfl; have z2 : w3.cell? ⟨w.heap.size, 2, none⟩ = some (.slice A2 pts.length c2) := (blk_cell hbk3 2).trans rfl; have z3 : w3.cell? ⟨w.heap.size, 3, none⟩ = some (.slice A3 lens.length c3) := (blk_cell hbk3 3).trans rfl))
    refine (enough_any _ _ _ _ _ _ _ _ _ _ _ _).mono ?_; rintro e w4 ⟨rfl, rfl⟩; obtain ⟨w4, hw4⟩ : ∃ w4, (w3.alloc (.cells #[.int .i64 a, .int .i64 b, .slice A2 pts.length c2, .slice A3 lens.length c3] 78)).alloc (.cells #[.slice A1 cl.length c1] 84) = w4 := ⟨_, rfl⟩; have hB3 : Below w.heap.size w w3 := below_step hB1 hb13; have hB4 : Below w3.heap.size w3 w4 := by rw [← hw4]; exact ((Below.refl _ _).alloc (Nat.le_refl _) _).alloc (by simp) _
    have hS4 : w4.heap[w3.heap.size]? = some (.cells #[.int .i64 a, .int .i64 b, .slice A2 pts.length c2, .slice A3 lens.length c3] 78 (0, 0)) := by rw [← hw4]; exact blk_alloc (blk_new _ _) _
    have hC4 : w4.heap[w3.heap.size + 1]? = some (.cells #[.slice A1 cl.length c1] 84 (0, 0)) := by
      have := blk_new (w3.alloc (.cells #[.int .i64 a, .int .i64 b, .slice A2 pts.length c2, .slice A3 lens.length c3] 78)) (.cells #[.slice A1 cl.length c1] 84); rw [World.size_alloc, hw4] at this; exact this
    rw [hw4]; have CBest := Aside0.mk (HG.out _ _ w4 (below_step hB3 hB4) hS4 hC4); have HB4 := Aside0.mk (below_step hB3 hB4); clear hw4 hS4 hC4 hB3 hB4 z0 z1 z2 z3 hb2 hb3 hb13 hbk3 hw1 x0 x1 x2 x3
    go_wp2_with (fail)
    refine CBest.out.mono ?_; rintro e w5 ⟨⟨A, n, c, p, m, rfl, hbi⟩, hb5⟩; have HB5 := Aside0.mk (below_step HB4.out hb5)
    cases bo with
    | none =>
      have hm : m = false := hbi; subst hm; have HPF2 : Aside0 (PF = ([], 0, 5)) := ⟨HPF.out⟩; clear hbi hb5; go_wp2; refine bodyPost_ret (v := .tuple #[.slice none 0 0, .int .i64 0, .int .i64 5]) (by simp [results, Tryz.results50, go_sem]) rfl ?_; rw [HPF2.out]; exact PipesPost.mk (Kd.R_nil _ _ _ _ _) rfl rfl (HB5.out.alloc HB5.out.size _)
    | some y =>
      obtain ⟨rfl, rfl, rfl, ho⟩ := hbi; have HPF2 : Aside0 (PF = (y.1, y.2, 0)) := ⟨HPF.out⟩; have HO5 := Aside0.mk (ho.weak HB4.out.size); clear ho hb5; go_wp2; obtain ⟨w6, hw6⟩ : ∃ w6, w5.alloc (.cells #[.slice A y.1.length c, .int .i64 y.2] 125) = w6 := ⟨_, rfl⟩; have hb6 : w6.heap[w5.heap.size]? = some (.cells #[.slice A y.1.length c, .int .i64 y.2] 125 (0, 0)) := by rw [← hw6]; exact blk_new _ _
      have HO6 : Aside0 (OwnI w6 w.heap.size (.slice A y.1.length c) y.1) := ⟨by rw [← hw6]; exact Kd.R_alloc HO5.out _⟩; have HB6 : Aside0 (Below w.heap.size w w6) := ⟨by rw [← hw6]; exact HB5.out.alloc HB5.out.size _⟩; rw [hw6]; have y0 : w6.cell? ⟨w5.heap.size, 0, none⟩ = some (.slice A y.1.length c) := (blk_cell hb6 0).trans rfl; have y1 : w6.cell? ⟨w5.heap.size, 1, none⟩ = some (.int .i64 y.2) := (blk_cell hb6 1).trans rfl; clear hw6 hb6
      go_quiet (fail)
      go_wp2; refine bodyPost_ret (v := .tuple #[.slice A y.1.length c, .int .i64 y.2, .int .i64 0]) (by simp [results, Tryz.results50, go_sem]) rfl ?_; rw [HPF2.out]; exact PipesPost.mk (Kd.R_drewN HO6.out _) rfl rfl (pw_below_drewN HB6.out _)
  all_goals
    have HPF : Aside0 (pipesF a b pts lens cl = ([], 0, 2)) := ⟨by unfold pipesF; rw [if_neg (by simp [*])]⟩; rw [h1] at CS; (try rw [h2] at CC); clear hr1 hr2 hr3
    go_enter Tryz.func50, Tryz.ntmps50
    go_upto_region 1 with (fail)
    try rw [hw1]
    go_wp2_with (first | (go_at_call 87; refine (CS.out _ hB1).mono ?_; rintro e w2 ⟨rfl, hb2⟩) | (go_at_call 89; refine (CC.out _ (below_step hB1 hb2)).mono ?_; rintro e w3 ⟨rfl, hb3⟩))
    refine bodyPost_ret (v := .tuple #[.slice none 0 0, .int .i64 0, .int .i64 2]) (by simp [results, Tryz.results50, go_sem]) rfl ?_; rw [HPF.out]
    first
      | exact PipesPost.mk (Kd.R_nil _ _ _ _ _) rfl rfl (below_step hB1 (below_step hb2 hb3))
      | exact PipesPost.mk (Kd.R_nil _ _ _ _ _) rfl rfl (below_step hB1 hb2)
def channel_Pipes.f (a b : Int) (pts : List S30) (lens : List Int) (cl : List S123) : Option (List Int × Int × Int) :=
  if pts.length ≤ 9223372036854775807 ∧ lens.length ≤ 9223372036854775807 ∧ cl.length ≤ 9223372036854775807 then some (pipesF a b pts lens cl) else none
theorem channel_Pipes.calls (a0_0 : Int) (a0_1 : Int) (A0_2 : Option Addr) (c0_2 : Nat) (l0_2 : List S30) (A0_3 : Option Addr) (c0_3 : Nat) (l0_3 : List Int) (A1 : Option Addr) (c1 : Nat) (l1 : List S123) (r1 : List Int) (r2 : Int) (r3 : Int) (w : World) (hr0_2 : Kd.C k30 w A0_2 l0_2.length l0_2) (hc0_2 : l0_2.length ≤ c0_2) (hr0_3 : Kd.C (Kd.int .i64) w A0_3 l0_3.length l0_3) (hc0_3 : l0_3.length ≤ c0_3) (hr1 : Kd.C k123 w A1 l1.length l1) (hc1 : l1.length ≤ c1) (h : channel_Pipes.f a0_0 a0_1 l0_2 l0_3 l1 = some (r1, r2, r3)) :
    Calls Tryz.prog 50 #[.agg #[.int .i64 a0_0, .int .i64 a0_1, .slice A0_2 l0_2.length c0_2, .slice A0_3 l0_3.length c0_3], .slice A1 l1.length c1] w fun e w' => ∃ v0_ : Value, e = .returned (.tuple #[v0_, .int .i64 r2, .int .i64 r3]) ∧ Kd.R (Kd.int .i64) 3 w' w.heap.size (fun _ => True) v0_ r1 ∧ Below w.heap.size w w' := by
  unfold channel_Pipes.f at h
  by_cases hl : l0_2.length ≤ 9223372036854775807 ∧ l0_3.length ≤ 9223372036854775807 ∧ l1.length ≤ 9223372036854775807
  case neg => rw [if_neg hl] at h; cases h
  rw [if_pos hl] at h; have h := Option.some.inj h; have := pipes_any a0_0 a0_1 A0_2 A0_3 A1 c0_2 c0_3 c1 l0_2 l0_3 l1 w hl.1 hl.2.1 hl.2.2 hr0_2 hc0_2 hr0_3 hc0_3 hr1 hc1; rw [h] at this; exact this
end Go.Proofs.YtdmdahafiiggiaaGreatDoor.K
end
section
namespace Go.Proofs.YtdmdahafiiggiaaGreatDoor.K
open Go.RowKit Go.Deep Go.ChangeShapes Go.WideShapes Go.ChangeAt Go.Proofs.YtdmdahafiiggiaaGreatDoorW.PrintWords Go.Proofs.YtdmdahafiiggiaaGreatDoorW.PrintLast Go.Proofs.YtdmdahafiiggiaaGreatDoorW.PrintMore
set_option maxRecDepth 100000
section
variable {H : Type} {enc : TypeId × Value → H} {w : World} {base : Nat} {spare : Nat → Bool} {held : Bool} {fuel : Nat} {cs : List Value} {x : DataW H × List MemPlace}
theorem list1 {α : Type} {l : List α} (h : l.length = 1) : ∃ a, l = [a] := by
  cases l with
  | nil => cases h
  | cons a l => cases l with
    | nil => exact ⟨a, rfl⟩
    | cons b l => simp at h
theorem list_succ {α : Type} {l : List α} {n : Nat} (h : l.length = n + 1) : ∃ a m, l = a :: m ∧ m.length = n := by
  cases l with
  | nil => simp at h
  | cons a m => exact ⟨a, m, rfl, by simpa using h⟩
theorem cSz : Tryz.prog.cellsOf 3 = 1 ∧ Tryz.prog.cellsOf 30 = 2 ∧ Tryz.prog.cellsOf 32 = 5 ∧ Tryz.prog.cellsOf 22 = 1 ∧ Tryz.prog.cellsOf 23 = 1 ∧ Tryz.prog.cellsOf 25 = 2 := ⟨by kernel_rfl, by kernel_rfl, by kernel_rfl, by kernel_rfl, by kernel_rfl, by kernel_rfl⟩
theorem el_int {fuel : Nat} {cs : List Value} {x : DataW H × List MemPlace} (h : DataW.trod enc Tryz.prog w base spare held fuel 3 cs = some x) : ∃ z : Int, cs = [.int .i64 z] := by
  obtain ⟨z, e, _⟩ := DataW.trod_int Tryz.underlying3 h; exact ⟨z, e⟩
theorem some_at {α : Type} {xs : List α} {i : Nat} (h : i < xs.length) : ∃ y, xs[i]? = some y := ⟨_, List.getElem?_eq_getElem h⟩
theorem el_span {fuel : Nat} {cs : List Value} {x : DataW H × List MemPlace} (h : DataW.trod enc Tryz.prog w base spare held fuel 30 cs = some x) : ∃ s : S30, cs = [.int .i64 s.f0, .int .i64 s.f1] := by
  obtain ⟨xs, n, -, -, hl, hx, hf⟩ := DataW.trod_struct Tryz.underlying30 h; rw [cSz.2.1] at hl; obtain ⟨a, m, rfl, hl2⟩ := list_succ hl; obtain ⟨b, rfl⟩ := list1 hl2; have hx : xs.length = 2 := hx; obtain ⟨y0, h0⟩ := some_at (xs := xs) (i := 0) (by omega); obtain ⟨y1, h1⟩ := some_at (xs := xs) (i := 1) (by omega); have f0 := (hf 0 _ rfl).trans h0; have f1 := (hf 1 _ rfl).trans h1
  change DataW.trod enc Tryz.prog w base spare held n 3 (([a, b].drop 0).take (Tryz.prog.cellsOf 3)) = _ at f0
  rw [cSz.1] at f0; replace f0 : DataW.trod enc Tryz.prog w base spare held n 3 [a] = _ := f0
  change DataW.trod enc Tryz.prog w base spare held n 3 (([a, b].drop 1).take (Tryz.prog.cellsOf 3)) = _ at f1
  rw [cSz.1] at f1; replace f1 : DataW.trod enc Tryz.prog w base spare held n 3 [b] = _ := f1; obtain ⟨z0, e0⟩ := el_int f0; obtain ⟨z1, e1⟩ := el_int f1
  cases e0
  cases e1
  exact ⟨⟨z0, z1⟩, rfl⟩
theorem el_stretch {fuel : Nat} {cs : List Value} {x : DataW H × List MemPlace} (h : DataW.trod enc Tryz.prog w base spare held fuel 32 cs = some x) : ∃ s : S32, cs = [.int .i64 s.f0, .int .i64 s.f1, .int .i64 s.f2, .int .i64 s.f3.f0, .int .i64 s.f3.f1] := by
  obtain ⟨xs, n, -, -, hl, hx, hf⟩ := DataW.trod_struct Tryz.underlying32 h; rw [cSz.2.2.1] at hl; obtain ⟨a, m1, rfl, hl1⟩ := list_succ hl; obtain ⟨b, m2, rfl, hl2⟩ := list_succ hl1; obtain ⟨c, m3, rfl, hl3⟩ := list_succ hl2; obtain ⟨d, m4, rfl, hl4⟩ := list_succ hl3; obtain ⟨e, rfl⟩ := list1 hl4; have hx : xs.length = 4 := hx; obtain ⟨y0, h0⟩ := some_at (xs := xs) (i := 0) (by omega); obtain ⟨y1, h1⟩ := some_at (xs := xs) (i := 1) (by omega); obtain ⟨y2, h2⟩ := some_at (xs := xs) (i := 2) (by omega); obtain ⟨y3, h3⟩ := some_at (xs := xs) (i := 3) (by omega); have f0 := (hf 0 _ rfl).trans h0; have f1 := (hf 1 _ rfl).trans h1; have f2 := (hf 2 _ rfl).trans h2; have f3 := (hf 3 _ rfl).trans h3
  change DataW.trod enc Tryz.prog w base spare held n 3 (([a, b, c, d, e].drop 0).take (Tryz.prog.cellsOf 3)) = _ at f0
  rw [cSz.1] at f0; replace f0 : DataW.trod enc Tryz.prog w base spare held n 3 [a] = _ := f0
  change DataW.trod enc Tryz.prog w base spare held n 3 (([a, b, c, d, e].drop 1).take (Tryz.prog.cellsOf 3)) = _ at f1
  rw [cSz.1] at f1; replace f1 : DataW.trod enc Tryz.prog w base spare held n 3 [b] = _ := f1
  change DataW.trod enc Tryz.prog w base spare held n 3 (([a, b, c, d, e].drop 2).take (Tryz.prog.cellsOf 3)) = _ at f2
  rw [cSz.1] at f2; replace f2 : DataW.trod enc Tryz.prog w base spare held n 3 [c] = _ := f2
  change DataW.trod enc Tryz.prog w base spare held n 30 (([a, b, c, d, e].drop 3).take (Tryz.prog.cellsOf 30)) = _ at f3
  rw [cSz.2.1] at f3; replace f3 : DataW.trod enc Tryz.prog w base spare held n 30 [d, e] = _ := f3; obtain ⟨z0, e0⟩ := el_int f0; obtain ⟨z1, e1⟩ := el_int f1; obtain ⟨z2, e2⟩ := el_int f2; obtain ⟨z3, e3⟩ := el_span f3
  cases e0
  cases e1
  cases e2
  cases e3
  exact ⟨⟨z0, z1, z2, z3⟩, rfl⟩
theorem choose_list {α : Type} {P : Nat → α → Prop} : ∀ n : Nat, (∀ j, j < n → ∃ a, P j a) → ∃ xs : List α, xs.length = n ∧ ∀ j p, xs[j]? = some p → P j p
  | 0, _ => ⟨[], rfl, fun j p h => by simp at h⟩
  | n + 1, h => by
    obtain ⟨xs, hl, hx⟩ := choose_list n (fun j hj => h j (by omega)); obtain ⟨a, ha⟩ := h n (by omega); refine ⟨xs ++ [a], by simp [hl], fun j p hp => ?_⟩
    by_cases hj : j < xs.length
    · rw [List.getElem?_append_left hj] at hp; exact hx j p hp
    · rw [List.getElem?_append_right (by omega)] at hp
      have : j = n := by
        have := (List.getElem?_eq_some_iff.1 hp).1; simp at this; omega
      subst this; rw [hl, Nat.sub_self] at hp; obtain rfl : a = p := by simpa using hp
      exact ha
theorem open_rows {α : Type} (d : Kd α) {t e : TypeId} {fuel : Nat} {cs : List Value} {x : DataW H × List MemPlace} (encs : α → List Value) (ht : Tryz.prog.underlying t = some (.slice e)) (hsz : Tryz.prog.cellsOf e = d.sz) (hn : ∀ a, (encs a).length = d.sz) (h0 : 0 < d.sz) (hK : ∀ a, d.K w a (encs a))
    (hel : ∀ (fuel : Nat) (cs : List Value) (x : DataW H × List MemPlace), DataW.trod enc Tryz.prog w base spare held fuel e cs = some x → ∃ a, cs = encs a) (h : DataW.trod enc Tryz.prog w base spare held fuel t cs = some x) :
    ∃ (A : Option Addr) (xs : List α) (c : Nat), cs = [.slice A xs.length c] ∧ Kd.C d w A xs.length xs ∧ xs.length ≤ c ∧ xs.length ≤ maxLen := by
  rcases open_slice ht h with ⟨rfl, _⟩ | ⟨a, len, cap, m, n, D, Pl, rfl, _, hl, hm, hmm, _, hall⟩
  · exact ⟨none, [], 0, rfl, ⟨rfl, by simp, fun h => absurd h (by simp)⟩, Nat.le_refl _, Nat.zero_le _⟩
  · have hlm : len ≤ m := by rw [hmm]; split <;> omega
    obtain ⟨xs, hxl, hx⟩ := choose_list (P := fun j (p : α) => w.cells? base (a.add (j * d.sz)) d.sz = some (encs p)) len (fun j hj => by
      obtain ⟨cs', h1, h2⟩ := hall j (by omega); obtain ⟨p, rfl⟩ := hel _ _ _ h2; rw [hsz] at h1
      exact ⟨p, h1⟩)
    refine ⟨some a, xs, cap, by rw [hxl], ⟨rfl, by rw [hxl]; unfold maxLen at hm; omega, fun _ => ⟨a, rfl, fun j p hp => ⟨encs p, hn p, hK p, fun i u hi => ?_⟩⟩⟩, by omega, by omega⟩; have h1 := World.cells?_some (hx j p hp); have hi' : i < d.sz := by have := (List.getElem?_eq_some_iff.1 hi).1; rw [hn] at this; exact this
    have h2 := h1.2.2 i hi'; rw [hi] at h2
    have h3 : a.add (j * d.sz + i) = (a.add (j * d.sz)).add i := by
      unfold Addr.add
      by_cases e1 : j * d.sz = 0 <;> by_cases e2 : i = 0 <;> simp [e1, e2] <;> omega
    rw [h3]; exact h2
structure At' {α : Type} (d : Kd α) (W : World) (A : Option Addr) (n cp : Nat) (xs : List α) : Prop where
  c : Kd.C d W A n xs
  le : n ≤ cp
theorem At'.below {α : Type} {d : Kd α} {W W1 : World} {A : Option Addr} {n c : Nat} {xs : List α} (h : At' d W A n c xs) (hb : Below W.heap.size W W1) : At' d W1 A n c xs := ⟨Kd.C_below h.c hb, h.le⟩
theorem At'.of_R {α : Type} {d : Kd α} {e base : Nat} {W : World} {v : Value} {xs : List α} (h : d.R e W base (fun _ => True) v xs) : ∃ A c, v = .slice A xs.length c ∧ At' d W A xs.length c xs := by
  obtain ⟨A, c, rfl, hl, hc⟩ := Kd.R_reads h; exact ⟨A, c, rfl, hc, hl⟩
theorem rows_ints {fuel : Nat} {cs : List Value} {x : DataW H × List MemPlace} (h : DataW.trod enc Tryz.prog w base spare held fuel 22 cs = some x) : ∃ (A : Option Addr) (xs : List Int) (c : Nat), cs = [.slice A xs.length c] ∧ At' (Kd.int .i64) w A xs.length c xs := by
  obtain ⟨A, xs, c, h1, h2, h3, _⟩ := open_rows (Kd.int .i64) (fun x => [Value.int .i64 x]) Tryz.underlying22 (by kernel_rfl) (fun _ => rfl) (by decide) (fun _ => rfl) (fun _ _ _ h => el_int h) h; exact ⟨A, xs, c, h1, h2, h3⟩
theorem open_ints {v : Value} {dd : DataW H} {p : List MemPlace} (hv : Value.okWide Tryz.prog w .any base 22 v) (h : DataW.Trod enc Tryz.prog w 0 spare held 22 v dd p) : ∃ (A : Option Addr) (xs : List Int) (c : Nat), v = .slice A xs.length c ∧ At' (Kd.int .i64) w A xs.length c xs := by
  obtain ⟨a, len, cap, rfl⟩ := okWide_slice Tryz.underlying22 hv; obtain ⟨fuel, h⟩ := h; obtain ⟨A, xs, c, h1, h2⟩ := rows_ints h; simp [Value.cells] at h1; obtain ⟨rfl, rfl, rfl⟩ := h1; exact ⟨_, xs, _, rfl, h2⟩
theorem rows_stretches {fuel : Nat} {cs : List Value} {x : DataW H × List MemPlace} (h : DataW.trod enc Tryz.prog w base spare held fuel 23 cs = some x) : ∃ (A : Option Addr) (xs : List S32) (c : Nat), cs = [.slice A xs.length c] ∧ At' k32 w A xs.length c xs := by
  obtain ⟨A, xs, c, h1, h2, h3, _⟩ := open_rows k32 (fun s => [.int .i64 s.f0, .int .i64 s.f1, .int .i64 s.f2, .int .i64 s.f3.f0, .int .i64 s.f3.f1]) Tryz.underlying23 (by kernel_rfl) (fun _ => rfl) (by decide) (fun s => k32_mk w s) (fun _ _ _ h => el_stretch h) h; exact ⟨A, xs, c, h1, h2, h3⟩
theorem agg_list {cs : Array Value} {l : List Value} (h : cs.toList = l) : cs = l.toArray := by rw [← h]
theorem open_line {v : Value} {dd : DataW H} {p : List MemPlace} (hv : Value.okWide Tryz.prog w .any base 25 v) (h : DataW.Trod enc Tryz.prog w 0 spare held 25 v dd p) :
    ∃ (A0 : Option Addr) (sp : List Int) (c0 : Nat) (A1 : Option Addr) (st : List S32) (c1 : Nat), v = .agg #[.slice A0 sp.length c0, .slice A1 st.length c1] ∧ At' (Kd.int .i64) w A0 sp.length c0 sp ∧ At' k32 w A1 st.length c1 st := by
  obtain ⟨cs, rfl, -⟩ := okWide_struct Tryz.underlying25 hv; obtain ⟨fuel, h⟩ := h; obtain ⟨xs, n, -, -, hl, hx, hf⟩ := DataW.trod_struct Tryz.underlying25 h; rw [show Tryz.prog.cellsOf 25 = 2 by kernel_rfl] at hl; obtain ⟨a, m1, e1, hl1⟩ := list_succ hl; obtain ⟨b, rfl⟩ := list1 hl1; rw [e1] at hf; have hx : xs.length = 2 := hx; obtain ⟨y0, h0⟩ := some_at (xs := xs) (i := 0) (by omega); obtain ⟨y1, h1⟩ := some_at (xs := xs) (i := 1) (by omega); have f0 := (hf 0 _ rfl).trans h0; have f1 := (hf 1 _ rfl).trans h1
  change DataW.trod enc Tryz.prog w 0 spare held n 22 (([a, b].drop 0).take (Tryz.prog.cellsOf 22)) = _ at f0
  rw [cSz.2.2.2.1] at f0; replace f0 : DataW.trod enc Tryz.prog w 0 spare held n 22 [a] = _ := f0
  change DataW.trod enc Tryz.prog w 0 spare held n 23 (([a, b].drop 1).take (Tryz.prog.cellsOf 23)) = _ at f1
  rw [cSz.2.2.2.2.1] at f1; replace f1 : DataW.trod enc Tryz.prog w 0 spare held n 23 [b] = _ := f1; obtain ⟨A0, sp, c0, k0, g0⟩ := rows_ints f0; obtain ⟨A1, st, c1, k1, g1⟩ := rows_stretches f1
  cases k0
  cases k1
  have e1 : cs.toList = _ := e1; exact ⟨A0, sp, c0, A1, st, c1, by rw [agg_list e1], g0, g1⟩
theorem open_num {v : Value} {dd : DataW H} {p : List MemPlace} (hv : Value.okWide Tryz.prog w .any base 3 v) (h : DataW.Trod enc Tryz.prog w 0 spare held 3 v dd p) : ∃ z : Int, v = .int .i64 z ∧ (Lit.int .i64 z).wf = true := by
  obtain ⟨n, e, _, hn⟩ := open_int Tryz.underlying3 hv h; exact ⟨n, e, hn.2⟩
end
end Go.Proofs.YtdmdahafiiggiaaGreatDoor.K
end
section
namespace Go.Proofs
open Go.Shelf
def Tryz.itoaL_ren : Go.Shelf.Ren := ⟨fun | 171 => 142 | 243 => 153 | 246 => 159 | 283 => 165 | 284 => 166 | 285 => 167 | 286 => 168 | 129 => 134 | 317 => 171 | 318 => 172 | 319 => 173 | 320 => 174 | 337 => 175 | 338 => 176 | n => n, fun | 3 => 3 | 9 => 9 | 2 => 2 | 4 => 4 | 171 => 206 | 0 => 0 | 53 => 176 | 37 => 208 | 5 => 5 | 173 => 209 | 212 => 218 | 51 => 174 | 20 => 20 | 213 => 219 | 46 => 139 | 232 => 220 | 233 => 221 | n => n, fun | 17 => 3 | 18 => 4 | 19 => 5 | n => n⟩
theorem Tryz.itoaL : Go.Proofs.LaysM.n171 Tryz.prog Tryz.itoaL_ren := {
  mixed := by kernel_rfl
  f129 := Tryz.func134.trans (congrArg some (by kernel_rfl))
  f171 := Tryz.func142.trans (congrArg some (by kernel_rfl))
  f243 := Tryz.func153.trans (congrArg some (by kernel_rfl))
  f246 := Tryz.func159.trans (congrArg some (by kernel_rfl))
  f283 := Tryz.func165.trans (congrArg some (by kernel_rfl))
  f284 := Tryz.func166.trans (congrArg some (by kernel_rfl))
  f285 := Tryz.func167.trans (congrArg some (by kernel_rfl))
  f286 := Tryz.func168.trans (congrArg some (by kernel_rfl))
  f317 := Tryz.func171.trans (congrArg some (by kernel_rfl))
  f318 := Tryz.func172.trans (congrArg some (by kernel_rfl))
  f319 := Tryz.func173.trans (congrArg some (by kernel_rfl))
  f320 := Tryz.func174.trans (congrArg some (by kernel_rfl))
  f337 := Tryz.func175.trans (congrArg some (by kernel_rfl))
  f338 := Tryz.func176.trans (congrArg some (by kernel_rfl))
  t0 := Tryz.underlying0
  a0 := Tryz.isAgg0
  z0 := Tryz.sizeOf0
  v0 := Tryz.zeroValue0
  t2 := Tryz.underlying2
  a2 := Tryz.isAgg2
  z2 := Tryz.sizeOf2
  v2 := Tryz.zeroValue2
  t3 := Tryz.underlying3
  a3 := Tryz.isAgg3
  z3 := Tryz.sizeOf3
  v3 := Tryz.zeroValue3
  t4 := Tryz.underlying4
  a4 := Tryz.isAgg4
  z4 := Tryz.sizeOf4
  v4 := Tryz.zeroValue4
  t5 := Tryz.underlying5
  a5 := Tryz.isAgg5
  z5 := Tryz.sizeOf5
  v5 := Tryz.zeroValue5
  t9 := Tryz.underlying9
  a9 := Tryz.isAgg9
  z9 := Tryz.sizeOf9
  v9 := Tryz.zeroValue9
  t20 := Tryz.underlying20
  a20 := Tryz.isAgg20
  z20 := Tryz.sizeOf20
  v20 := Tryz.zeroValue20
  t37 := Tryz.underlying208
  a37 := Tryz.isAgg208
  z37 := Tryz.sizeOf208
  v37 := Tryz.zeroValue208
  t46 := Tryz.underlying139
  a46 := Tryz.isAgg139
  z46 := Tryz.sizeOf139
  v46 := Tryz.zeroValue139
  t51 := Tryz.underlying174
  a51 := Tryz.isAgg174
  z51 := Tryz.sizeOf174
  v51 := Tryz.zeroValue174
  t53 := Tryz.underlying176
  a53 := Tryz.isAgg176
  z53 := Tryz.sizeOf176
  v53 := Tryz.zeroValue176
  t171 := Tryz.underlying206
  a171 := Tryz.isAgg206
  z171 := Tryz.sizeOf206
  v171 := Tryz.zeroValue206
  t173 := Tryz.underlying209
  a173 := Tryz.isAgg209
  z173 := Tryz.sizeOf209
  v173 := Tryz.zeroValue209
  t212 := Tryz.underlying218
  a212 := Tryz.isAgg218
  z212 := Tryz.sizeOf218
  v212 := Tryz.zeroValue218
  t213 := Tryz.underlying219
  a213 := Tryz.isAgg219
  z213 := Tryz.sizeOf219
  t232 := Tryz.underlying220
  a232 := Tryz.isAgg220
  z232 := Tryz.sizeOf220
  v232 := Tryz.zeroValue220
  t233 := Tryz.underlying221
  a233 := Tryz.isAgg221
  z233 := Tryz.sizeOf221
  v233 := Tryz.zeroValue221
  g17 := by kernel_rfl
  g18 := by kernel_rfl
  g19 := by kernel_rfl
  i0 := by kernel_rfl
  i2 := by kernel_rfl
  i3 := by kernel_rfl
  i4 := by kernel_rfl
  i5 := by kernel_rfl
  i9 := by kernel_rfl
  i20 := by kernel_rfl
  i37 := by kernel_rfl
  i46 := by kernel_rfl
  i51 := by kernel_rfl
  i53 := by kernel_rfl
  i171 := by kernel_rfl
  i173 := by kernel_rfl
  i212 := by kernel_rfl
  i232 := by kernel_rfl
  i233 := by kernel_rfl
  m17 := by kernel_rfl
  m18 := by kernel_rfl
  m19 := by kernel_rfl }
def Tryz.splitL_ren : Go.Shelf.Ren := ⟨fun | 146 => 119 | 221 => 141 | 268 => 150 | 138 => 151 | 143 => 152 | 195 => 155 | 197 => 156 | 218 => 157 | 219 => 158 | 260 => 160 | 217 => 161 | 225 => 162 | 224 => 163 | 267 => 164 | 266 => 169 | 314 => 170 | n => n, fun | 9 => 9 | 31 => 158 | 3 => 3 | 4 => 4 | 0 => 0 | 105 => 202 | 21 => 21 | 5 => 5 | 46 => 139 | 119 => 211 | 139 => 214 | 138 => 213 | 146 => 215 | 51 => 174 | n => n, fun | 1 => 0 | 3 => 1 | 4 => 2 | n => n⟩
theorem Tryz.splitL : Go.Proofs.Lays.n146 Tryz.prog Tryz.splitL_ren := {
  mixed := by kernel_rfl
  f138 := Tryz.func151.trans (congrArg some (by kernel_rfl))
  f143 := Tryz.func152.trans (congrArg some (by kernel_rfl))
  f146 := Tryz.func119.trans (congrArg some (by kernel_rfl))
  f195 := Tryz.func155.trans (congrArg some (by kernel_rfl))
  f197 := Tryz.func156.trans (congrArg some (by kernel_rfl))
  f217 := Tryz.func161.trans (congrArg some (by kernel_rfl))
  f218 := Tryz.func157.trans (congrArg some (by kernel_rfl))
  f219 := Tryz.func158.trans (congrArg some (by kernel_rfl))
  f221 := Tryz.func141.trans (congrArg some (by kernel_rfl))
  f224 := Tryz.func163.trans (congrArg some (by kernel_rfl))
  f225 := Tryz.func162.trans (congrArg some (by kernel_rfl))
  f260 := Tryz.func160.trans (congrArg some (by kernel_rfl))
  f266 := Tryz.func169.trans (congrArg some (by kernel_rfl))
  f267 := Tryz.func164.trans (congrArg some (by kernel_rfl))
  f268 := Tryz.func150.trans (congrArg some (by kernel_rfl))
  f314 := Tryz.func170.trans (congrArg some (by kernel_rfl))
  t0 := Tryz.underlying0
  a0 := Tryz.isAgg0
  z0 := Tryz.sizeOf0
  v0 := Tryz.zeroValue0
  t3 := Tryz.underlying3
  a3 := Tryz.isAgg3
  z3 := Tryz.sizeOf3
  v3 := Tryz.zeroValue3
  t4 := Tryz.underlying4
  a4 := Tryz.isAgg4
  z4 := Tryz.sizeOf4
  v4 := Tryz.zeroValue4
  t5 := Tryz.underlying5
  a5 := Tryz.isAgg5
  z5 := Tryz.sizeOf5
  v5 := Tryz.zeroValue5
  t9 := Tryz.underlying9
  a9 := Tryz.isAgg9
  z9 := Tryz.sizeOf9
  v9 := Tryz.zeroValue9
  t21 := Tryz.underlying21
  a21 := Tryz.isAgg21
  z21 := Tryz.sizeOf21
  v21 := Tryz.zeroValue21
  t31 := Tryz.underlying158
  a31 := Tryz.isAgg158
  z31 := Tryz.sizeOf158
  v31 := Tryz.zeroValue158
  t46 := Tryz.underlying139
  a46 := Tryz.isAgg139
  z46 := Tryz.sizeOf139
  v46 := Tryz.zeroValue139
  t51 := Tryz.underlying174
  a51 := Tryz.isAgg174
  z51 := Tryz.sizeOf174
  v51 := Tryz.zeroValue174
  t105 := Tryz.underlying202
  a105 := Tryz.isAgg202
  z105 := Tryz.sizeOf202
  v105 := Tryz.zeroValue202
  t119 := Tryz.underlying211
  a119 := Tryz.isAgg211
  z119 := Tryz.sizeOf211
  t138 := Tryz.underlying213
  a138 := Tryz.isAgg213
  z138 := Tryz.sizeOf213
  v138 := Tryz.zeroValue213
  t139 := Tryz.underlying214
  a139 := Tryz.isAgg214
  z139 := Tryz.sizeOf214
  v139 := Tryz.zeroValue214
  t146 := Tryz.underlying215
  a146 := Tryz.isAgg215
  z146 := Tryz.sizeOf215
  v146 := Tryz.zeroValue215
  g1 := by kernel_rfl
  g3 := by kernel_rfl
  g4 := by kernel_rfl }
end Go.Proofs
end
