/- ChannelBetter: the walk of the law, and what it comes to. -/
import Derived.Test.YtdmdahafiiggiaaGreatDoorLChannelBetter
set_option linter.unusedVariables false
set_option linter.unusedSimpArgs false
section
namespace Go.Proofs.YtdmdahafiiggiaaGreatDoor.K.Pl
def cnt (l : List Int) (t : Int) : Nat := l.countP fun x => decide (x ≤ t)
theorem cnt_nil (t : Int) : cnt [] t = 0 := rfl
theorem cnt_cons (a : Int) (l : List Int) (t : Int) : cnt (a :: l) t = cnt l t + if a ≤ t then 1 else 0 := by
 unfold cnt; rw [List.countP_cons]; by_cases h : a ≤ t <;> simp [h]
theorem cnt_perm {l m : List Int} (h : l.Perm m) (t : Int) : cnt l t = cnt m t := h.countP_eq _
theorem cnt_le_len (l : List Int) (t : Int) : cnt l t ≤ l.length := List.countP_le_length
theorem cnt_mono (l : List Int) {s t : Int} (h : s ≤ t) : cnt l s ≤ cnt l t := by
 induction l with
 | nil => exact Nat.le_refl _
 | cons a l ih => rw [cnt_cons, cnt_cons]; split <;> split <;> omega
theorem cnt_erase {l : List Int} {y : Int} (h : y ∈ l) (t : Int) : cnt (l.erase y) t + (if y ≤ t then 1 else 0) = cnt l t := by
 have := cnt_perm (List.perm_cons_erase h) t
 rw [cnt_cons] at this; omega
def Fills (l m : List Int) : Prop := ∀ t, cnt l t ≤ cnt m t
theorem cnt_all {l : List Int} {t : Int} (h : ∀ x ∈ l, x ≤ t) : cnt l t = l.length := by
 unfold cnt; rw [List.countP_eq_length]; simpa using h
theorem cnt_eq_zero {l : List Int} {t : Int} (h : cnt l t = 0) : ∀ x ∈ l, t < x := by
 unfold cnt at h; rw [List.countP_eq_zero] at h; intro x hx; have := h x hx; simp at this; omega
theorem greatest_le {m : List Int} {a : Int} (h : 0 < cnt m a) : ∃ y ∈ m, y ≤ a ∧ ∀ x ∈ m, x ≤ a → x ≤ y := by
 induction m with
 | nil => simp [cnt] at h
 | cons b m ih =>
  by_cases h0 : 0 < cnt m a
  ·obtain ⟨y, hy, hya, hmax⟩ := ih h0
   by_cases hb : b ≤ a ∧ y < b
   ·refine ⟨b, List.mem_cons_self, hb.1, ?_⟩
    intro x hx hxa
    rcases List.mem_cons.1 hx with rfl | hx
    ·exact Int.le_refl _
    ·have := hmax x hx hxa; omega
   ·refine ⟨y, List.mem_cons_of_mem _ hy, hya, ?_⟩
    intro x hx hxa
    rcases List.mem_cons.1 hx with rfl | hx
    ·omega
    ·exact hmax x hx hxa
  ·have hz : cnt m a = 0 := by omega
   rw [cnt_cons, hz] at h
   have hba : b ≤ a := by
    by_cases hba : b ≤ a
    ·exact hba
    ·rw [if_neg hba] at h; omega
   refine ⟨b, List.mem_cons_self, hba, ?_⟩
   intro x hx hxa
   rcases List.mem_cons.1 hx with rfl | hx
   ·exact Int.le_refl _
   ·have := cnt_eq_zero hz x hx; omega
theorem cnt_same {m : List Int} {y a t : Int} (h : ∀ x ∈ m, x ≤ a → x ≤ y) (h1 : y ≤ t) (h2 : t ≤ a) : cnt m t = cnt m a := by
 unfold cnt
 apply List.countP_congr
 intro x hx
 have := h x hx
 simp
 constructor
 ·intro; omega
 ·intro hxa; have := this hxa; omega
theorem fills_step {a : Int} {l m : List Int} (h : Fills (a :: l) m) : ∃ y ∈ m, y ≤ a ∧ Fills l (m.erase y) := by
 have ha := h a
 rw [cnt_cons, if_pos (Int.le_refl a)] at ha
 obtain ⟨y, hy, hya, hmax⟩ := greatest_le (m := m) (a := a) (by omega)
 refine ⟨y, hy, hya, ?_⟩
 intro t
 have he := cnt_erase hy t
 have ht := h t
 rw [cnt_cons] at ht
 by_cases h1 : y ≤ t
 ·rw [if_pos h1] at he
  by_cases h2 : a ≤ t
  ·rw [if_pos h2] at ht; omega
  ·have hs := cnt_same hmax h1 (by omega : t ≤ a)
   have := cnt_mono l (by omega : t ≤ a)
   omega
 ·rw [if_neg h1] at he
  rw [if_neg (by omega)] at ht
  omega
theorem fills_of_way {l m : List Int} (hl : l.length = m.length) (h : ∀ i, (hi : i < l.length) → m[i]'(by omega) ≤ l[i]) : Fills l m := by
 induction l generalizing m with
 | nil => intro t; rw [cnt_nil]; exact Nat.zero_le _
 | cons a l ih =>
  cases m with
  | nil => simp at hl
  | cons b m =>
   have h0 := h 0 (by simp)
   simp at h0
   have := ih (m := m) (by simpa using hl) (fun i hi => by have := h (i + 1) (by simpa using hi); simpa using this)
   intro t
   have ht := this t
   rw [cnt_cons, cnt_cons]
   split <;> split <;> omega
theorem fills_perm {l l' m m' : List Int} (h : Fills l m) (hl : l.Perm l') (hm : m.Perm m') : Fills l' m' := fun t => by rw [← cnt_perm hl, ← cnt_perm hm]; exact h t
theorem cnt_sorted_take {l : List Int} (hs : l.Pairwise (· ≤ ·)) (i : Nat) (hi : i < l.length) : i + 1 ≤ cnt l l[i] := by
 have h1 : ∀ x ∈ l.take (i + 1), x ≤ l[i] := by
  intro x hx
  obtain ⟨j, hj, rfl⟩ := List.mem_iff_getElem.1 hx
  rw [List.length_take] at hj
  rw [List.getElem_take]
  rcases Nat.lt_or_ge j i with h | h
  ·exact (List.pairwise_iff_getElem.1 hs) j i (by omega) hi h
  ·have : j = i := by omega
   subst this; exact Int.le_refl _
 have h2 := cnt_all h1
 have h3 : cnt (l.take (i + 1)) l[i] ≤ cnt l l[i] := by
  have : cnt l l[i] = cnt (l.take (i + 1)) l[i] + cnt (l.drop (i + 1)) l[i] := by
   unfold cnt; rw [← List.countP_append, List.take_append_drop]
  omega
 rw [h2, List.length_take] at h3
 omega
theorem cnt_sorted_lt {l : List Int} (hs : l.Pairwise (· ≤ ·)) (i : Nat) (hi : i < l.length) (t : Int) (ht : t < l[i]) : cnt l t ≤ i := by
 have : cnt l t = cnt (l.take i) t + cnt (l.drop i) t := by
  unfold cnt; rw [← List.countP_append, List.take_append_drop]
 have h2 : cnt (l.drop i) t = 0 := by
  unfold cnt; rw [List.countP_eq_zero]
  intro x hx
  obtain ⟨j, hj, rfl⟩ := List.mem_iff_getElem.1 hx
  rw [List.getElem_drop]
  rw [List.length_drop] at hj
  have : l[i] ≤ l[i + j] := by
   rcases Nat.eq_zero_or_pos j with h | h
   ·subst h; exact Int.le_refl _
   ·exact (List.pairwise_iff_getElem.1 hs) i (i + j) hi (by omega) (by omega)
  simp; omega
 have h3 := cnt_le_len (l.take i) t
 rw [List.length_take] at h3
 omega
theorem fills_sorted {l m : List Int} (hl : l.length = m.length) (sl : l.Pairwise (· ≤ ·)) (sm : m.Pairwise (· ≤ ·)) : Fills l m ↔ ∀ i, (hi : i < l.length) → m[i]'(by omega) ≤ l[i] := by
 constructor
 ·intro h i hi
  have h1 := cnt_sorted_take sl i hi
  have h2 := h l[i]
  apply Int.not_lt.1
  intro hlt
  have := cnt_sorted_lt sm i (by omega) l[i] hlt
  omega
 ·exact fills_of_way hl
def cge (l : List Int) (y : Int) : Nat := l.countP fun x => decide (y ≤ x)
theorem cge_cons (a : Int) (l : List Int) (t : Int) : cge (a :: l) t = cge l t + if t ≤ a then 1 else 0 := by
 unfold cge; rw [List.countP_cons]; by_cases h : t ≤ a <;> simp [h]
theorem cge_cnt (l : List Int) (t : Int) : cge l t + cnt l (t - 1) = l.length := by
 induction l with
 | nil => rfl
 | cons a l ih => rw [cge_cons, cnt_cons, List.length_cons]; split <;> split <;> omega
theorem cge_le_len (l : List Int) (t : Int) : cge l t ≤ l.length := List.countP_le_length
theorem cge_anti (l : List Int) {s t : Int} (h : s ≤ t) : cge l t ≤ cge l s := by
 have h1 := cge_cnt l t; have h2 := cge_cnt l s; have := cnt_mono l (by omega : s - 1 ≤ t - 1); omega
theorem cge_append (l m : List Int) (t : Int) : cge (l ++ m) t = cge l t + cge m t := List.countP_append
theorem cge_nodup_step {l : List Int} (h : l.Nodup) (y : Int) : cge l y ≤ cge l (y + 1) + 1 ∧ (y ∉ l → cge l y = cge l (y + 1)) ∧ (y ∈ l → cge l y = cge l (y + 1) + 1) := by
 induction l with
 | nil => simp [cge]
 | cons a l ih =>
  rw [List.nodup_cons] at h
  have ih := ih h.2
  rw [cge_cons, cge_cons]
  by_cases ha : a = y
  ·subst ha
   rw [if_pos (Int.le_refl a), if_neg (by omega)]
   have := ih.2.1 h.1
   refine ⟨by omega, fun h' => (h' List.mem_cons_self).elim, fun _ => by omega⟩
  ·have e : (if y ≤ a then 1 else 0) = (if y + 1 ≤ a then 1 else 0) := by
    by_cases h1 : y + 1 ≤ a
    ·rw [if_pos h1, if_pos (by omega)]
    ·rw [if_neg h1, if_neg (by omega)]
   rw [e]
   refine ⟨by omega, fun h' => ?_, fun h' => ?_⟩
   ·have := ih.2.1 (fun hm => h' (List.mem_cons_of_mem _ hm)); omega
   ·rcases List.mem_cons.1 h' with h' | h'
    ·exact (ha h'.symm).elim
    ·have := ih.2.2 h'; omega
def grF (last : List Int) : Nat → Int → List Int → List Int
 | 0, _, out => out
 | k + 1, y, out => if out.length < last.length then (if out.length < cge last y then grF last k (y - 1) (out ++ [y]) else grF last k (y - 1) out) else out
theorem cge_lo {l : List Int} {t : Int} (h : ∀ x ∈ l, t ≤ x) : cge l t = l.length := by
 unfold cge; rw [List.countP_eq_length]; simpa using h
theorem cge_hi {l : List Int} {t : Int} (h : ∀ x ∈ l, x < t) : cge l t = 0 := by
 unfold cge; rw [List.countP_eq_zero]; intro x hx; have := h x hx; simp; omega
def StepAt (last R : List Int) (t : Int) : Prop := cge R t = if cge R (t + 1) < cge last t then cge R (t + 1) + 1 else cge R (t + 1)
theorem gr_spec (last : List Int) : ∀ (k : Nat) (y : Int) (out : List Int), (∀ x ∈ out, y < x) → out.length ≤ last.length →
  (∀ t, y < t → cge (grF last k y out) t = cge out t) ∧ (∀ t, y - k < t → t ≤ y → StepAt last (grF last k y out) t) ∧ (∀ x ∈ grF last k y out, y - k < x) ∧ (grF last k y out).length ≤ last.length
 | 0, y, out, ho, hl => by
  refine ⟨fun _ _ => rfl, fun t h1 h2 => ?_, fun x hx => by have := ho x hx; simp; omega, hl⟩
  simp at h1; omega
 | k + 1, y, out, ho, hl => by
  unfold grF
  by_cases h1 : out.length < last.length
  ·rw [if_pos h1]
   by_cases h2 : out.length < cge last y
   ·rw [if_pos h2]
    obtain ⟨a, b, c, d⟩ := gr_spec last k (y - 1) (out ++ [y]) (fun x hx => by rcases List.mem_append.1 hx with hx | hx; have := ho x hx; omega; simp at hx; omega) (by simp; omega)
    have e1 : cge (grF last k (y - 1) (out ++ [y])) (y + 1) = out.length := by
     rw [a _ (by omega), cge_append, cge_lo (fun x hx => by have := ho x hx; omega), cge_hi (l := [y]) (by simp; omega)]; rfl
    have e2 : cge (grF last k (y - 1) (out ++ [y])) y = out.length + 1 := by
     rw [a _ (by omega), cge_lo (fun x hx => by rcases List.mem_append.1 hx with hx | hx; have := ho x hx; omega; simp at hx; omega)]; simp
    refine ⟨fun t ht => ?_, fun t h3 h4 => ?_, fun x hx => by have := c x hx; omega, d⟩
    ·rw [a t (by omega), cge_append, cge_hi (l := [y]) (by simpa using ht)]; rfl
    ·by_cases e : t = y
     ·subst e; unfold StepAt; rw [e1, e2, if_pos h2]
     ·exact b t (by omega) (by omega)
   ·rw [if_neg h2]
    obtain ⟨a, b, c, d⟩ := gr_spec last k (y - 1) out (fun x hx => by have := ho x hx; omega) hl
    refine ⟨fun t ht => a t (by omega), fun t h3 h4 => ?_, fun x hx => by have := c x hx; omega, d⟩
    by_cases e : t = y
    ·subst e
     unfold StepAt
     have e1 : cge (grF last k (t - 1) out) (t + 1) = out.length := by rw [a _ (by omega), cge_lo (fun x hx => by have := ho x hx; omega)]
     rw [e1, a t (by omega), cge_lo (fun x hx => by have := ho x hx; omega), if_neg h2]
    ·exact b t (by omega) (by omega)
  ·rw [if_neg h1]
   refine ⟨fun _ _ => rfl, fun t h3 h4 => ?_, fun x hx => by have := ho x hx; omega, hl⟩
   unfold StepAt
   have := cge_le_len last t
   rw [cge_lo (fun x hx => by have := ho x hx; omega), cge_lo (fun x hx => by have := ho x hx; omega), if_neg (by omega)]
def gr (last : List Int) : List Int := grF last 41 40 []
theorem gr_le (last : List Int) : ∀ x ∈ gr last, 0 ≤ x := fun x hx => by
 have := (gr_spec last 41 40 [] (by simp) (by simp)).2.2.1 x hx; simp at this; omega
theorem gr_len (last : List Int) : (gr last).length ≤ last.length := (gr_spec last 41 40 [] (by simp) (by simp)).2.2.2
theorem gr_top (last : List Int) {t : Int} (h : 40 < t) : cge (gr last) t = 0 := (gr_spec last 41 40 [] (by simp) (by simp)).1 t h
theorem gr_step (last : List Int) {t : Int} (h0 : 0 ≤ t) (h1 : t ≤ 40) : StepAt last (gr last) t := (gr_spec last 41 40 [] (by simp) (by simp)).2.1 t (by simp; omega) h1
structure Feas (last F : List Int) : Prop where
 nodup : F.Nodup
 range : ∀ x ∈ F, 0 ≤ x ∧ x ≤ 40
 can : ∀ t, cge F t ≤ cge last t
theorem feas_le {last F : List Int} (h : Feas last F) : ∀ (k : Nat) (t : Int), t + k = 41 → 0 ≤ t → cge F t ≤ cge (gr last) t
 | 0, t, ht, _ => by
  rw [cge_hi (l := F) (fun x hx => by have := h.range x hx; simp at ht; omega)]; exact Nat.zero_le _
 | k + 1, t, ht, h0 => by
  have ih := feas_le h k (t + 1) (by omega) (by omega)
  have hs := gr_step last h0 (by omega : t ≤ 40)
  unfold StepAt at hs
  have h1 := (cge_nodup_step h.nodup t).1
  have h2 := h.can t
  split at hs <;> omega
theorem gr_can (last : List Int) : ∀ (k : Nat) (t : Int), t + k = 41 → 0 ≤ t → cge (gr last) t ≤ cge last t
 | 0, t, ht, _ => by rw [gr_top last (by simp at ht; omega)]; exact Nat.zero_le _
 | k + 1, t, ht, h0 => by
  have ih := gr_can last k (t + 1) (by omega) (by omega)
  have hs := gr_step last h0 (by omega : t ≤ 40)
  have := cge_anti last (by omega : t ≤ t + 1)
  unfold StepAt at hs
  split at hs <;> omega
theorem gr_fills {last : List Int} (h : (gr last).length = last.length) : Fills last (gr last) := by
 intro t
 have h1 := cge_cnt last (t + 1)
 have h2 := cge_cnt (gr last) (t + 1)
 have e : t + 1 - 1 = t := by omega
 rw [e] at h1 h2
 have h0 : cge (gr last) 0 = (gr last).length := cge_lo (gr_le last)
 have h00 := gr_can last 41 0 (by simp) (by omega)
 have h3 : cge (gr last) (t + 1) ≤ cge last (t + 1) := by
  by_cases ht : 40 < t + 1
  ·rw [gr_top last ht]; exact Nat.zero_le _
  ·by_cases h4 : 0 ≤ t + 1
   ·exact gr_can last (41 - (t + 1)).toNat (t + 1) (by omega) h4
   ·have := cge_anti last (by omega : t + 1 ≤ 0); have := cge_le_len (gr last) (t + 1); omega
 omega
theorem feas_whole {last F : List Int} (h : Feas last F) (hl : F.length = last.length) : (gr last).length = last.length := by
 have h1 := feas_le h 41 0 (by simp) (by omega)
 rw [cge_lo (fun x hx => (h.range x hx).1), cge_lo (gr_le last)] at h1
 have := gr_len last
 omega
def sumTo (l : List Int) : Nat → Int
 | 0 => 0
 | k + 1 => sumTo l k + (cge l (k + 1) : Nat)
def total (l : List Int) : Int := l.foldr (· + ·) 0
theorem sumTo_nil : ∀ k, sumTo [] k = 0
 | 0 => rfl
 | k + 1 => by rw [sumTo, sumTo_nil k]; rfl
theorem sumTo_cons (a : Int) (l : List Int) (h0 : 0 ≤ a) : ∀ k : Nat, sumTo (a :: l) k = (if a ≤ k then a else k) + sumTo l k
 | 0 => by simp [sumTo]; omega
 | k + 1 => by
  rw [sumTo, sumTo, sumTo_cons a l h0 k, cge_cons]
  split <;> split <;> split <;> omega
theorem total_eq {l : List Int} (h : ∀ x ∈ l, 0 ≤ x ∧ x ≤ 40) : total l = sumTo l 40 := by
 induction l with
 | nil => rw [sumTo_nil]; rfl
 | cons a l ih =>
  have ha := h a List.mem_cons_self
  rw [sumTo_cons a l ha.1, if_pos (by have := ha.2; simpa using this), ← ih (fun x hx => h x (List.mem_cons_of_mem _ hx))]; rfl
theorem total_perm {l m : List Int} (h : l.Perm m) : total l = total m := by
 induction h with
 | nil => rfl
 | cons x _ ih => show x + total _ = x + total _; rw [ih]
 | swap x y l => show y + (x + total l) = x + (y + total l); omega
 | trans _ _ h1 h2 => rw [h1, h2]
theorem sumTo_mono {l m : List Int} : ∀ k : Nat, (∀ j : Nat, j < k → cge l (j + 1) ≤ cge m (j + 1)) → sumTo l k ≤ sumTo m k
 | 0, _ => Int.le_refl _
 | k + 1, h => by
  have := sumTo_mono k (fun j hj => h j (by omega)); have := h k (by omega); simp only [sumTo]; omega
theorem sumTo_eq {l m : List Int} : ∀ k : Nat, (∀ j : Nat, j < k → cge l (j + 1) ≤ cge m (j + 1)) → sumTo l k = sumTo m k → ∀ j : Nat, j < k → cge l (j + 1) = cge m (j + 1)
 | 0, _, _ => fun j hj => by omega
 | k + 1, h, he => by
  have h1 := sumTo_mono k (fun j hj => h j (by omega)); have h2 := h k (by omega); simp only [sumTo] at he
  intro j hj
  rcases Nat.lt_or_ge j k with hjk | hjk
  ·exact sumTo_eq k (fun j hj => h j (by omega)) (by omega) j hjk
  ·have : j = k := by omega
   subst this; omega
theorem gr_range (last : List Int) : ∀ x ∈ gr last, 0 ≤ x ∧ x ≤ 40 := fun x hx => ⟨gr_le last x hx, by
 have h := gr_top last (t := 41) (by omega)
 unfold cge at h; rw [List.countP_eq_zero] at h; have := h x hx; simp at this; omega⟩
theorem feas_sum {last F : List Int} (h : Feas last F) : total F ≤ total (gr last) := by
 rw [total_eq h.range, total_eq (gr_range last)]
 exact sumTo_mono 40 (fun j hj => feas_le h (40 - j) (j + 1) (by omega) (by omega))
theorem grF_nodup (last : List Int) : ∀ (k : Nat) (y : Int) (out : List Int), (∀ x ∈ out, y < x) → out.Nodup → (grF last k y out).Nodup
 | 0, _, _, _, hn => hn
 | k + 1, y, out, ho, hn => by
  unfold grF
  split
  ·split
   ·exact grF_nodup last k (y - 1) _ (fun x hx => by rcases List.mem_append.1 hx with hx | hx; have := ho x hx; omega; simp at hx; omega) (by
     rw [List.nodup_append]; refine ⟨hn, by simp, ?_⟩
     intro a ha b hb; simp at hb; have := ho a ha; omega)
   ·exact grF_nodup last k (y - 1) _ (fun x hx => by have := ho x hx; omega) hn
  ·exact hn
theorem gr_nodup (last : List Int) : (gr last).Nodup := grF_nodup last 41 40 [] (by simp) (by simp)
theorem feas_perm {last F : List Int} (h : Feas last F) (hl : F.length = last.length) (hs : total F = total (gr last)) : F.Perm (gr last) := by
 rw [total_eq h.range, total_eq (gr_range last)] at hs
 have he := sumTo_eq 40 (fun j hj => feas_le h (40 - j) (j + 1) (by omega) (by omega)) hs
 have hg := feas_whole h hl
 have h0 : cge F 0 = cge (gr last) 0 := by rw [cge_lo (fun x hx => (h.range x hx).1), cge_lo (gr_le last), hl, hg]
 have hall : ∀ t : Int, 0 ≤ t → cge F t = cge (gr last) t := by
  intro t ht
  by_cases h1 : t = 0
  ·rw [h1]; exact h0
  ·by_cases h2 : 40 < t
   ·rw [gr_top last h2, cge_hi (l := F) (fun x hx => by have := h.range x hx; omega)]
   ·have := he (t - 1).toNat (by omega)
    have e : ((t - 1).toNat : Int) + 1 = t := by omega
    rwa [e] at this
 rw [List.perm_ext_iff_of_nodup h.nodup (gr_nodup last)]
 intro x
 constructor
 ·intro hx
  have hr := h.range x hx
  by_cases hg : x ∈ gr last
  ·exact hg
  ·have h1 := (cge_nodup_step (gr_nodup last) x).2.1 hg
   have h2 := (cge_nodup_step h.nodup x).2.2 hx
   have := hall x hr.1; have := hall (x + 1) (by omega); omega
 ·intro hx
  have hr := gr_range last x hx
  by_cases hg : x ∈ F
  ·exact hg
  ·have h1 := (cge_nodup_step h.nodup x).2.1 hg
   have h2 := (cge_nodup_step (gr_nodup last) x).2.2 hx
   have := hall x hr.1; have := hall (x + 1) (by omega); omega
def Ok (a : Int) (l L : List Int) (y : Int) : Prop := y ∈ L ∧ y ≤ a ∧ Fills l (L.erase y)
inductive Least : List Int → List Int → List Int → Prop
 | nil (L : List Int) : Least [] L []
 | cons {a y : Int} {l L p : List Int} (h : Ok a l L y) (hm : ∀ z, Ok a l L z → y ≤ z) (hp : Least l (L.erase y) p) : Least (a :: l) L (y :: p)
theorem least_len {l L p : List Int} (h : Least l L p) : p.length = l.length := by
 induction h with
 | nil => rfl
 | cons _ _ _ ih => simp [ih]
theorem least_perm {l L p : List Int} (h : Least l L p) (hl : L.length = l.length) : p.Perm L := by
 induction h with
 | nil L =>
  have e : L = [] := List.eq_nil_of_length_eq_zero (by rw [hl]; rfl)
  subst e; exact List.Perm.refl _
 | @cons a y l L p h hm hp ih =>
  have := List.length_erase_of_mem h.1
  simp only [List.length_cons] at hl
  exact ((ih (by omega)).cons y).trans (List.perm_cons_erase h.1).symm
theorem least_le {l L p : List Int} (h : Least l L p) : ∀ i, (hi : i < l.length) → p[i]'(by rw [least_len h]; exact hi) ≤ l[i] := by
 induction h with
 | nil => intro i hi; simp at hi
 | @cons a y l L p h hm hp ih =>
  intro i hi
  cases i with
  | zero => simpa using h.2.1
  | succ i => simpa using ih i (by simpa using hi)
def before : List Int → List Int → Bool
 | a :: l, b :: m => if a = b then before l m else decide (a < b)
 | _, _ => false
theorem least_first {l L p : List Int} (h : Least l L p) : ∀ {o : List Int}, o.Perm L → (ho : o.length = l.length) → (∀ i, (hi : i < l.length) → o[i]'(by omega) ≤ l[i]) → before o p = false := by
 induction h with
 | nil => intro o _ ho _; cases o with
  | nil => rfl
  | cons => simp at ho
 | @cons a y l L p h hm hp ih =>
  intro o hpe ho hle
  cases o with
  | nil => simp at ho
  | cons b o =>
   have hb : b ∈ L := hpe.subset List.mem_cons_self
   have hba := hle 0 (by simp)
   simp at hba
   have hpo : o.Perm (L.erase b) := (List.cons_perm_iff_perm_erase.1 hpe).2
   have hle' : ∀ i, (hi : i < l.length) → o[i]'(by simp at ho; omega) ≤ l[i] := fun i hi => by have := hle (i + 1) (by simpa using hi); simpa only [List.getElem_cons_succ] using this
   have hok : Ok a l L b := ⟨hb, hba, fills_perm (fills_of_way (by simp at ho; omega) hle') (List.Perm.refl _) hpo⟩
   have := hm b hok
   unfold before
   by_cases e : b = y
   ·subst e
    rw [if_pos rfl]
    exact ih hpo (by simpa using ho) hle'
   ·rw [if_neg e]; simp; omega
theorem ok_some {a : Int} {l L : List Int} (h : Fills (a :: l) L) : ∃ y, Ok a l L y := by
 obtain ⟨y, h1, h2, h3⟩ := fills_step h; exact ⟨y, h1, h2, h3⟩
end Go.Proofs.YtdmdahafiiggiaaGreatDoor.K.Pl
end
section
namespace Go.Proofs.YtdmdahafiiggiaaGreatDoor.K
open Go.RowKit Go.Proofs.YtdmdahafiiggiaaGreatDoorW.PrintWords Go.Proofs.YtdmdahafiiggiaaGreatDoorW.PrintLast Go.Proofs.YtdmdahafiiggiaaGreatDoorW.PrintMore
variable {sp : List Int} {st : List ST}
theorem rlat_from (h : isLineB sp st = true) {n : Int} (hn : numB st n = true) (need : Int) : ∀ (d K : Nat), latN sp st n need + d ≤ 200 → d + 103 < K → quinariaref02_Latest.l0 K n need (latN sp st n need + d) sp st = some (latN sp st n need)
 | 0, K + 1, hd, hK => by
  have hr := latN_range sp st n need
  unfold quinariaref02_Latest.l0
  rw [show latN sp st n need + ((0 : Nat) : Int) = latN sp st n need by omega]
  by_cases e : latN sp st n need ≥ 0
  ·rw [if_pos e, rcar_f h hn (by simp [inB]; omega) K (by omega), Option.bind_some, if_pos ((latN_iff h hn need e (by omega)).mpr (Int.le_refl _))]
  ·rw [if_neg e]
   congr 1
   omega
 | d + 1, K + 1, hd, hK => by
  have hr := latN_range sp st n need
  unfold quinariaref02_Latest.l0
  have hx : ¬ (leastN sp st n (latN sp st n need + ((d + 1 : Nat) : Int)) ≥ need) := fun hge => by
   have := (latN_iff h hn need (show 0 ≤ latN sp st n need + ((d + 1 : Nat) : Int) by omega) hd).mp hge
   omega
  rw [if_pos (by omega), rcar_f h hn (by simp [inB]; omega) K (by omega), Option.bind_some, if_neg hx, IntWalk.wrap64_in _ (by omega), show latN sp st n need + ((d + 1 : Nat) : Int) - 1 = latN sp st n need + (d : Int) by omega]
  exact rlat_from h hn need d K (by omega) (by omega)
theorem rlat_f (h : isLineB sp st = true) {n : Int} (hn : numB st n = true) (need : Int) (K : Nat) (hK : 310 < K) : quinariaref02_Latest.f K sp st n need = some (latN sp st n need) := by
 have hr := latN_range sp st n need
 unfold quinariaref02_Latest.f
 have := rlat_from h hn need (200 - latN sp st n need).toNat K (by omega) (by omega)
 rwa [show latN sp st n need + (((200 - latN sp st n need).toNat : Nat) : Int) = 200 by omega] at this
def lastV (x a untl : Int) : Int := if x = 200 then 1000 else if x - a ≥ untl then 1000 else x - a
theorem rlast_f (h : isLineB sp st = true) {n : Int} (hn : numB st n = true) (need a untl : Int) (a0 : 0 ≤ a) (a1 : a ≤ 200) (K : Nat) (hK : 310 < K) : quinariaref02_Last.f K sp st n a need untl = some (lastV (latN sp st n need) a untl) := by
 have hr := latN_range sp st n need
 unfold quinariaref02_Last.f lastV
 rw [rlat_f h hn need K hK, Option.bind_some, IntWalk.wrap64_in _ (by omega)]
 split
 ·rfl
 ·split <;> rfl
theorem grF_eq (last : List Int) : ∀ (k : Nat) (y : Int) (out : List Int), Pl.grF last k y out = grFrom last k y out
 | 0, y, out => rfl
 | k + 1, y, out => by
  unfold Pl.grF grFrom
  rw [grF_eq last k (y - 1) (out ++ [y]), grF_eq last k (y - 1) out]
  rfl
theorem gr_eq (last : List Int) : Pl.gr last = grN last := grF_eq last 41 40 []
theorem w1n (m : Nat) (h : m ≤ 1000000) : wrap64 ((m : Int) + 1) = ((m + 1 : Nat) : Int) := by rw [w1 (by omega) (by omega)]; omega
end Go.Proofs.YtdmdahafiiggiaaGreatDoor.K
end
section
namespace Go.Proofs.YtdmdahafiiggiaaGreatDoor.K
open Go.RowKit Go.Proofs.YtdmdahafiiggiaaGreatDoorW.PrintWords Go.Proofs.YtdmdahafiiggiaaGreatDoorW.PrintLast Go.Proofs.YtdmdahafiiggiaaGreatDoorW.PrintMore
variable {sp : List Int} {st : List ST}
theorem ok_perm {a : Int} {l L L' : List Int} {y : Int} (h : Pl.Ok a l L y) (hp : L.Perm L') : Pl.Ok a l L' y := ⟨hp.subset h.1, h.2.1, Pl.fills_perm h.2.2 (List.Perm.refl _) (hp.erase y)⟩
section
variable (L a : Nat → Int) (untl : Int)
def dueB (i : Nat) : Bool := decide (L i < 200) && decide (L i - a i < untl)
def rank : Nat → Nat
  | 0 => 0
  | k + 1 => rank k + if dueB L a untl k then 1 else 0
def planL (n : Nat) (p : List Int) : List Int := (List.range n).map fun x => if dueB L a untl x then p.getD (rank L a untl x) 0 else -1
theorem rank_mono : ∀ {i j : Nat}, i ≤ j → rank L a untl i ≤ rank L a untl j
  | i, 0, h => by obtain rfl : i = 0 := by omega
                  exact Nat.le_refl _
  | i, j + 1, h => by
    by_cases e : i = j + 1
    · subst e; exact Nat.le_refl _
    · have := rank_mono (show i ≤ j by omega)
      show _ ≤ rank L a untl j + _
      omega
theorem rank_lt {i j : Nat} (h : i < j) (hd : dueB L a untl i = true) : rank L a untl i < rank L a untl j := by
  have := rank_mono L a untl (show i + 1 ≤ j by omega)
  have e : rank L a untl (i + 1) = rank L a untl i + if dueB L a untl i then 1 else 0 := rfl
  rw [e, hd, if_pos rfl] at this
  omega
theorem rank_has {i : Nat} : ∀ {m : Nat}, i < rank L a untl m → ∃ z, z < m ∧ dueB L a untl z = true ∧ rank L a untl z = i
  | 0, h => absurd h (Nat.not_lt_zero _)
  | m + 1, h => by
    by_cases h2 : i < rank L a untl m
    · obtain ⟨z, a, b, c⟩ := rank_has h2
      exact ⟨z, by omega, b, c⟩
    · have e3 : rank L a untl (m + 1) = rank L a untl m + if dueB L a untl m then 1 else 0 := rfl
      cases hdm : dueB L a untl m with
      | false => rw [hdm] at e3; simp at e3; omega
      | true => rw [hdm, if_pos rfl] at e3; exact ⟨m, by omega, hdm, by omega⟩
theorem rank_zero : rank L a untl 0 = 0 := rfl
theorem rank_succ (k : Nat) : rank L a untl (k + 1) = rank L a untl k + if dueB L a untl k then 1 else 0 := rfl
theorem planL_len (n : Nat) (p : List Int) : (planL L a untl n p).length = n := by simp [planL]
theorem planL_get {n : Nat} (p : List Int) {x : Nat} (h : x < n) (h2 : x < (planL L a untl n p).length) : (planL L a untl n p)[x] = if dueB L a untl x = true then p.getD (rank L a untl x) 0 else -1 := by simp [planL]
end
variable {L : Int → Int} {ages : List Int} {untl : Int}
abbrev Ln (L : Int → Int) : Nat → Int := fun i => L (i : Int)
abbrev an (ages : List Int) : Nat → Int := fun i => ages.getD i 0
theorem dueF_spec : ∀ {k : Nat} {due last : List Int}, dueF L ages untl k = some (due, last) → due.length = rank (Ln L) (an ages) untl k ∧ last.length = due.length ∧ (∀ i, i < k → 0 ≤ L (i : Int)) ∧ ∀ i, i < k → dueB (Ln L) (an ages) untl i = true → due.getD (rank (Ln L) (an ages) untl i) 0 = (i : Int) ∧ last.getD (rank (Ln L) (an ages) untl i) 0 = L (i : Int) - ages.getD i 0
  | 0, due, last, h => by
    obtain ⟨rfl, rfl⟩ := Prod.mk.inj (Option.some.inj h)
    exact ⟨rfl, rfl, fun i hi => by omega, fun i hi => by omega⟩
  | k + 1, due, last, h => by
    obtain ⟨s, hs, h⟩ := Option.bind_eq_some_iff.mp h
    by_cases hneg : L k < 0
    · rw [if_pos hneg] at h; cases h
    rw [if_neg hneg] at h
    have h := Option.some.inj h
    obtain ⟨due0, last0⟩ := s
    obtain ⟨h1, h2, h3, h4⟩ := dueF_spec hs
    unfold stepDue at h
    have hr : rd ages (k : Int) = ages.getD k 0 := rd_at ages k
    rw [hr] at h
    have hrank : rank (Ln L) (an ages) untl (k + 1) = rank (Ln L) (an ages) untl k + if dueB (Ln L) (an ages) untl k then 1 else 0 := rfl
    by_cases hd : L (k : Int) < 200 ∧ L (k : Int) - ages.getD k 0 < untl
    · rw [if_pos hd] at h
      obtain ⟨rfl, rfl⟩ := Prod.mk.inj h
      have hdb : dueB (Ln L) (an ages) untl k = true := by unfold dueB; rw [Bool.and_eq_true, decide_eq_true_iff, decide_eq_true_iff]; exact hd
      rw [hdb, if_pos rfl] at hrank
      refine ⟨by simp; omega, by simp; omega, fun i hi => ?_, fun i hi hdi => ?_⟩
      · by_cases e : i = k
        · subst e; omega
        · exact h3 i (by omega)
      · by_cases e : i = k
        · subst e
          rw [← h1]
          exact ⟨by simp [List.getD], by rw [← h2]; simp [List.getD]⟩
        · have hlt := rank_lt (Ln L) (an ages) untl (show i < k by omega) hdi
          have := h4 i (by omega) hdi
          simp only [List.getD] at this ⊢
          rw [List.getElem?_append_left (by omega), List.getElem?_append_left (by omega)]
          exact this
    · rw [if_neg hd] at h
      obtain ⟨rfl, rfl⟩ := Prod.mk.inj h
      have hdb : dueB (Ln L) (an ages) untl k = false := by
        cases e : dueB (Ln L) (an ages) untl k with
        | false => rfl
        | true => exact absurd (by unfold dueB at e; rw [Bool.and_eq_true, decide_eq_true_iff, decide_eq_true_iff] at e; exact e) hd
      rw [hdb] at hrank
      refine ⟨by simpa [hrank] using h1, h2, fun i hi => ?_, fun i hi hdi => ?_⟩
      · by_cases e : i = k
        · subst e; omega
        · exact h3 i (by omega)
      · by_cases e : i = k
        · subst e; rw [hdb] at hdi; cases hdi
        · exact h4 i (by omega) hdi
theorem leftL_snoc {ys T : List Int} {y : Int} (hn : ys.Nodup) : leftL ys (T ++ [y]) = (leftL ys T).erase y := by
  unfold leftL
  rw [List.Nodup.erase_eq_filter (hn.filter _), List.filter_filter]
  apply List.filter_congr
  intro x hx
  by_cases e : x = y
  · subst e; simp
  · by_cases e2 : x ∈ T <;> simp [e, e2]
theorem find_least {p : Int → Bool} : ∀ {l : List Int} {y : Int}, l.Pairwise (· ≤ ·) → l.find? p = some y → p y = true ∧ y ∈ l ∧ ∀ z ∈ l, p z = true → y ≤ z
  | [], y, _, h => by cases h
  | x :: l, y, hs, h => by
    rw [List.find?_cons] at h
    cases hp : p x with
    | true =>
      rw [hp] at h
      obtain rfl := Option.some.inj h
      refine ⟨hp, List.mem_cons_self .., fun z hz _ => ?_⟩
      rcases List.mem_cons.mp hz with rfl | hz
      · exact Int.le_refl _
      · exact (List.pairwise_cons.mp hs).1 z hz
    | false =>
      rw [hp] at h
      obtain ⟨h1, h2, h3⟩ := find_least (List.pairwise_cons.mp hs).2 h
      refine ⟨h1, List.mem_cons_of_mem _ h2, fun z hz hpz => ?_⟩
      rcases List.mem_cons.mp hz with rfl | hz
      · rw [hp] at hpz; cases hpz
      · exact h3 z hz hpz
theorem fitB_iff {last years : List Int} (h : last.length = years.length) : fitB last years = true ↔ Pl.Fills last years := by
  have e1 : Pl.Fills last years ↔ Pl.Fills (sortL last) (sortL years) := ⟨fun h => Pl.fills_perm h (sortL_perm _).symm (sortL_perm _).symm, fun h => Pl.fills_perm h (sortL_perm _) (sortL_perm _)⟩
  rw [e1, Pl.fills_sorted (by rw [sortL_length, sortL_length, h]) (sortL_sorted _) (sortL_sorted _)]
  unfold fitB
  rw [List.all_eq_true]
  have hl1 := sortL_length last
  have hl2 := sortL_length years
  constructor
  · intro h3 i hi
    have := h3 i (List.mem_range.mpr (by omega))
    rw [rd_at, rd_at, List.getD, List.getD, List.getElem?_eq_getElem (by omega), List.getElem?_eq_getElem (by omega)] at this
    simpa using this
  · intro h3 i hi
    have hi := List.mem_range.mp hi
    have := h3 i (by omega)
    rw [rd_at, rd_at, List.getD, List.getD, List.getElem?_eq_getElem (by omega), List.getElem?_eq_getElem (by omega)]
    simpa using this
structure PickAt (ys last : List Int) (i : Nat) (T : List Int) : Prop where
  len : T.length = i
  left : (leftL ys T).length = (last.drop i).length
  fills : Pl.Fills (last.drop i) (leftL ys T)
  go : ∀ p', Pl.Least (last.drop i) (leftL ys T) p' → Pl.Least last ys (T ++ p')
theorem pick_step {ys last T : List Int} {i : Nat} (hn : ys.Nodup) (hs : ys.Pairwise (· ≤ ·)) (hi : i < last.length) (h : PickAt ys last i T) : ∃ y, pickF ys last i T = some y ∧ PickAt ys last (i + 1) (T ++ [y]) := by
  have hd : last.drop i = last[i] :: last.drop (i + 1) := List.drop_eq_getElem_cons hi
  have hrd : rd last (i : Int) = last[i] := by rw [rd_at, List.getD, List.getElem?_eq_getElem hi]; rfl
  have hlen := h.left
  rw [hd] at hlen
  have hsub : (leftL ys T).Pairwise (· ≤ ·) := hs.filter _
  have hok : ∀ z ∈ leftL ys T, (okY ys last i T z = true ↔ Pl.Ok last[i] (last.drop (i + 1)) (leftL ys T) z) := fun z hz => by
    have hle : (last.drop (i + 1)).length = ((leftL ys T).erase z).length := by rw [List.length_erase_of_mem hz, hlen]; rfl
    unfold okY Pl.Ok
    rw [Bool.and_eq_true, leftL_snoc hn, fitB_iff hle, hrd, decide_eq_true_iff]
    exact ⟨fun ⟨a, b⟩ => ⟨hz, a, b⟩, fun ⟨_, a, b⟩ => ⟨a, b⟩⟩
  have hf := h.fills
  rw [hd] at hf
  obtain ⟨z, hz⟩ := Pl.ok_some hf
  unfold pickF
  cases hp : (leftL ys T).find? (okY ys last i T) with
  | none =>
    rw [List.find?_eq_none] at hp
    exact absurd ((hok z hz.1).mpr hz) (hp z hz.1)
  | some y =>
    obtain ⟨h1, h2, h3⟩ := find_least hsub hp
    have hoy := (hok y h2).mp h1
    refine ⟨y, rfl, ⟨by simp [h.len], ?_, ?_, fun p' hp' => ?_⟩⟩
    · rw [leftL_snoc hn, List.length_erase_of_mem h2, hlen]; rfl
    · rw [leftL_snoc hn]; exact hoy.2.2
    · rw [leftL_snoc hn] at hp'
      have := h.go (y :: p') (by rw [hd]; exact Pl.Least.cons hoy (fun z hz => h3 z hz.1 ((hok z hz.1).mpr hz)) hp')
      rwa [List.append_assoc, List.singleton_append]
theorem stepPick_some {ys last due : List Int} {i : Nat} {s : List Int × List Int} {y : Int} (h : pickF ys last i s.1 = some y) : stepPick ys last due i s = (s.1 ++ [y], s.2.set (rd due i).toNat y) := by unfold stepPick; rw [h]
theorem picks_at {ys last due plan : List Int} (hn : ys.Nodup) (hs : ys.Pairwise (· ≤ ·)) (hl : ys.length = last.length) (hf : Pl.Fills last ys) : ∀ i, i ≤ last.length → PickAt ys last i (picks2 i (stepPick ys last due) ([], plan)).1
  | 0, _ => by
    have e : leftL ys [] = ys := by simp [leftL]
    exact ⟨rfl, by rw [picks2, e, List.drop_zero, hl], by rw [picks2, e]; exact hf, fun p' hp' => by rw [picks2, e] at hp'; simpa [picks2] using hp'⟩
  | i + 1, hi => by
    have ih := picks_at (due := due) (plan := plan) hn hs hl hf i (by omega)
    obtain ⟨y, hy, h⟩ := pick_step hn hs (by omega) ih
    rw [picks2, stepPick_some hy]
    exact h
theorem picks_plan {ys last due : List Int} {n : Nat} (hn : ys.Nodup) (hs : ys.Pairwise (· ≤ ·)) (hl : ys.length = last.length) (hf : Pl.Fills last ys) (hd : dueF L ages untl n = some (due, last)) : ∀ i, i ≤ last.length →
    (picks2 i (stepPick ys last due) ([], List.replicate n (-1))).2.length = n ∧ ∀ x, x < n → (picks2 i (stepPick ys last due) ([], List.replicate n (-1))).2.getD x 0 = if dueB (Ln L) (an ages) untl x = true ∧ rank (Ln L) (an ages) untl x < i then (picks2 i (stepPick ys last due) ([], List.replicate n (-1))).1.getD (rank (Ln L) (an ages) untl x) 0 else -1
  | 0, _ => ⟨by simp [picks2], fun x hx => by simp [picks2, List.getD, hx]⟩
  | i + 1, hi => by
    obtain ⟨d1, d2, d3, d4⟩ := dueF_spec hd
    obtain ⟨ih1, ih2⟩ := picks_plan hn hs hl hf hd i (by omega)
    have hat := picks_at (due := due) (plan := List.replicate n (-1)) hn hs hl hf i (by omega)
    obtain ⟨y, hy, -⟩ := pick_step hn hs (by omega) hat
    have hT := hat.len
    rw [picks2, stepPick_some hy]
    clear hy
    generalize picks2 i (stepPick ys last due) ([], List.replicate n (-1)) = s at *
    refine ⟨by simpa using ih1, fun x hx => ?_⟩
    by_cases hdx : dueB (Ln L) (an ages) untl x = true
    · obtain ⟨e1, -⟩ := d4 x hx hdx
      by_cases er : rank (Ln L) (an ages) untl x = i
      · rw [er] at e1
        rw [if_pos ⟨hdx, by omega⟩, er, rd_at, e1, Int.toNat_natCast]
        simp [List.getD, ih1, hx, ← hT]
      · have hne : due.getD i 0 ≠ (x : Int) := by
          intro e
          have hri : i < rank (Ln L) (an ages) untl n := by omega
          obtain ⟨z, z1, z2, z3⟩ := rank_has (Ln L) (an ages) untl hri
          obtain ⟨e4, -⟩ := d4 z z1 z2
          rw [z3, e] at e4
          have : x = z := by omega
          subst this
          exact er z3
        have e5 : (s.2.set (rd due (i : Int)).toNat y).getD x 0 = s.2.getD x 0 := by
          rw [rd_at]
          by_cases hneg : (due.getD i 0).toNat = x
          · 
            exfalso
            have hri : i < rank (Ln L) (an ages) untl n := by omega
            obtain ⟨z, z1, z2, z3⟩ := rank_has (Ln L) (an ages) untl hri
            obtain ⟨e4, -⟩ := d4 z z1 z2
            rw [z3] at e4
            exact hne (by rw [e4] at hneg ⊢; omega)
          · generalize (due.getD i 0).toNat = q at hneg ⊢
            simp [List.getD, List.getElem?_set, hneg]
        rw [e5, ih2 x hx]
        by_cases hlt : rank (Ln L) (an ages) untl x < i
        · rw [if_pos ⟨hdx, hlt⟩, if_pos ⟨hdx, by omega⟩]
          simp [List.getD, List.getElem?_append_left (show rank (Ln L) (an ages) untl x < s.1.length by omega)]
        · rw [if_neg (fun h => hlt h.2), if_neg (fun h => by have := h.2; omega)]
    · have hri : i < rank (Ln L) (an ages) untl n := by omega
      obtain ⟨z, z1, z2, z3⟩ := rank_has (Ln L) (an ages) untl hri
      obtain ⟨e4, -⟩ := d4 z z1 z2
      rw [z3] at e4
      have hzx : z ≠ x := by intro e; subst e; exact hdx z2
      have e5 : (s.2.set (rd due (i : Int)).toNat y).getD x 0 = s.2.getD x 0 := by
        rw [rd_at, e4, Int.toNat_natCast]
        simp [List.getD, List.getElem?_set, hzx]
      rw [e5, ih2 x hx, if_neg (fun h => hdx h.1), if_neg (fun h => hdx h.1)]
attribute [local irreducible] latN rank planL Pl.cnt
theorem least_permL {l L p : List Int} (h : Pl.Least l L p) : ∀ {L' : List Int}, L.Perm L' → Pl.Least l L' p := by
  induction h with
  | nil L => intro L' _; exact Pl.Least.nil L'
  | @cons a y l L p h hm hp ih => intro L' hpe; exact Pl.Least.cons (ok_perm h hpe) (fun z hz => hm z (ok_perm hz hpe.symm)) (ih (hpe.erase y))
theorem grN_nodup (last : List Int) : (grN last).Nodup := gr_eq last ▸ Pl.gr_nodup last
theorem grN_range (last : List Int) : ∀ x ∈ grN last, 0 ≤ x ∧ x ≤ 40 := gr_eq last ▸ Pl.gr_range last
theorem grN_fills {last : List Int} (h : (grN last).length = last.length) : Pl.Fills last (grN last) := by
  rw [← gr_eq] at h ⊢
  exact Pl.gr_fills h
def NoPlan (sp : List Int) (st : List ST) (ages : List Int) (need untl : Int) : Prop :=
  dueF (fun n => latN sp st n need) ages untl ages.length = none ∨ ∃ due last, dueF (fun n => latN sp st n need) ages untl ages.length = some (due, last) ∧ (grN last).length ≠ last.length
structure BestP (sp : List Int) (st : List ST) (ages : List Int) (need untl : Int) (due last p : List Int) : Prop where
  due : dueF (fun n => latN sp st n need) ages untl ages.length = some (due, last)
  len : (grN last).length = last.length
  least : Pl.Least last (grN last) p
def theL (sp : List Int) (st : List ST) (need : Int) : Nat → Int := fun i => latN sp st (i : Int) need
theorem plan_code {ages : List Int} {need untl : Int} (hb : planB sp st ages need untl = true) :
    NoPlan sp st ages need untl ∧ planF sp st ages need untl = ([], 5) ∨ ∃ due last p, BestP sp st ages need untl due last p ∧ planF sp st ages need untl = (planL (theL sp st need) (an ages) untl ages.length p, 0) := by
  unfold planF
  rw [if_pos hb]
  cases hd : dueF (fun n => latN sp st n need) ages untl ages.length with
  | none => exact .inl ⟨.inl hd, rfl⟩
  | some s =>
    obtain ⟨due, last⟩ := s
    by_cases hl : (grN last).length = last.length
    · right
      obtain ⟨d1, d2, d3, d4⟩ := dueF_spec hd
      have hn : (sortL (grN last)).Nodup := (sortL_perm _).nodup_iff.mpr (grN_nodup last)
      have hf : Pl.Fills last (sortL (grN last)) := Pl.fills_perm (grN_fills hl) (List.Perm.refl _) (sortL_perm _).symm
      have hs := sortL_sorted (grN last)
      have hl' : (sortL (grN last)).length = last.length := by rw [sortL_length, hl]
      obtain ⟨p1, p2⟩ := picks_plan hn hs hl' hf hd last.length (Nat.le_refl _)
      have hat := picks_at (due := due) (plan := List.replicate ages.length (-1)) hn hs hl' hf last.length (Nat.le_refl _)
      have hle := hat.go [] (by rw [List.drop_length]; exact Pl.Least.nil _)
      rw [List.append_nil] at hle
      refine ⟨due, last, _, ⟨hd, hl, least_permL hle (sortL_perm _)⟩, ?_⟩
      simp only [if_pos hl]
      unfold picksF
      rw [← d2]
      congr 1
      apply List.ext_getElem
      · rw [p1, planL_len]
      · intro x h1 h2
        rw [p1] at h1
        have := p2 x h1
        rw [List.getD, List.getElem?_eq_getElem (by rw [p1]; exact h1)] at this
        simp only [Option.getD_some] at this
        rw [this, planL_get _ _ _ _ h1 h2]
        show _ = if dueB (Ln fun n => latN sp st n need) (an ages) untl x = true then (picks2 last.length (stepPick (sortL (grN last)) last due) ([], List.replicate ages.length (-1))).1.getD (rank (Ln fun n => latN sp st n need) (an ages) untl x) 0 else -1
        by_cases hdx : dueB (Ln fun n => latN sp st n need) (an ages) untl x = true
        · have := rank_lt (Ln fun n => latN sp st n need) (an ages) untl h1 hdx
          rw [if_pos ⟨hdx, by omega⟩, if_pos hdx]
        · rw [if_neg (fun h => hdx h.1), if_neg hdx]
    · left
      exact ⟨.inr ⟨due, last, hd, hl⟩, by simp only [if_neg hl]⟩
section
variable {need : Int}
theorem lastV_due {x a u : Int} (h1 : 0 ≤ x) (h2 : x ≤ 200) (hu : u ≤ 40) : (lastV x a u = 1000 ↔ ¬ (x < 200 ∧ x - a < u)) ∧ ((x < 200 ∧ x - a < u) → lastV x a u = x - a) := by
  unfold lastV
  constructor
  · split
    · simp; omega
    · split
      · simp; omega
      · constructor
        · intro h; omega
        · intro h; omega
  · rintro ⟨h3, h4⟩
    rw [if_neg (by omega), if_neg (by omega)]
theorem plan_ar {ages : List Int} {d j : Nat} (hj : j + (d + 1) = ages.length) (hal : ages.length = st.length) (hl : st.length ≤ 8) :
    j < ages.length ∧ j < st.length ∧ j < 17592186044416 ∧ j + 1 + d = ages.length ∧ (0 : Int) ≤ (j : Int) ∧ (j : Int) < (ages.length : Int) ∧ (j : Int) < (st.length : Int) ∧ Aside0 (wrap64 ((j : Int) + 1) = ((j + 1 : Nat) : Int)) :=
  ⟨by omega, by omega, by omega, by omega, by omega, by omega, by omega, ⟨w1n j (by omega)⟩⟩
end
end Go.Proofs.YtdmdahafiiggiaaGreatDoor.K
end
section
namespace Go.Proofs.YtdmdahafiiggiaaGreatDoor.K
open Go.RowKit Go.Proofs.YtdmdahafiiggiaaGreatDoorW.PrintWords Go.Proofs.YtdmdahafiiggiaaGreatDoorW.PrintLast Go.Proofs.YtdmdahafiiggiaaGreatDoorW.PrintMore
variable {sp : List Int} {st : List ST} {ages : List Int} {need untl : Int}
attribute [local irreducible] latN rank planL Pl.cnt
theorem planB_parts (hb : planB sp st ages need untl = true) : isLineB sp st = true ∧ areAgesB st.length ages = true ∧ inB need 1 10000000 = true ∧ inB untl 0 40 = true := by
  simp only [planB, Bool.and_eq_true] at hb
  exact ⟨hb.1.1.1, hb.1.1.2, hb.1.2, hb.2⟩
end Go.Proofs.YtdmdahafiiggiaaGreatDoor.K
end
section
namespace Go.Proofs.YtdmdahafiiggiaaGreatDoor.K
open Go.RowKit Go.Proofs.YtdmdahafiiggiaaGreatDoorW.PrintWords Go.Proofs.YtdmdahafiiggiaaGreatDoorW.PrintLast Go.Proofs.YtdmdahafiiggiaaGreatDoorW.PrintMore
variable {sp : List Int} {st : List ST} {ages : List Int} {need untl : Int}
theorem needR_f (n : Int) : quinariaref02_Need.f n = some (inB n 1 10000000) := by unfold quinariaref02_Need.f; rw [inR_f, Option.bind_some]
theorem untilR_f (n : Int) : quinariaref02_Until.f n = some (inB n 0 40) := by unfold quinariaref02_Until.f; rw [inR_f, Option.bind_some]
theorem planC_f (h1 : sp.length ≤ 1000000) (h2 : st.length ≤ 1000000) (h3 : ages.length ≤ 1000000) : channel_Plan.f sp st ages need untl = some (planF sp st ages need untl) := by
  unfold channel_Plan.f
  rw [if_pos ⟨by omega, by omega, by omega⟩]
end Go.Proofs.YtdmdahafiiggiaaGreatDoor.K
end
section
namespace Go.Proofs.YtdmdahafiiggiaaGreatDoor.K
open Go.RowKit Go.Proofs.YtdmdahafiiggiaaGreatDoorW.PrintWords Go.Proofs.YtdmdahafiiggiaaGreatDoorW.PrintLast Go.Proofs.YtdmdahafiiggiaaGreatDoorW.PrintMore
variable {sp : List Int} {st : List ST} {ages : List Int} {need untl : Int}
attribute [local irreducible] latN rank planL Pl.cnt Pl.cge
def PlAt (sp : List Int) (st : List ST) (ages : List Int) (need untl : Int) (o : List Int) (i : Nat) : Prop :=
  0 ≤ latN sp st (i : Int) need ∧ (if dueB (theL sp st need) (an ages) untl i = true then 0 ≤ o.getD i 0 ∧ o.getD i 0 ≤ latN sp st (i : Int) need - ages.getD i 0 else o.getD i 0 = -1) ∧ ∀ k, k < i → 0 ≤ o.getD i 0 → o.getD k 0 ≠ o.getD i 0
structure PlanIs (sp : List Int) (st : List ST) (ages : List Int) (need untl : Int) (o : List Int) : Prop where
  len : o.length = ages.length
  at_ : ∀ i, i < ages.length → PlAt sp st ages need untl o i
theorem getD_at {l : List Int} {j : Nat} (h : j < l.length) : l.getD j 0 = l[j] := by rw [List.getD, List.getElem?_eq_getElem h]; rfl
theorem planned_l1 (o : List Int) (i : Nat) (hi : i < o.length) (ho : o.length ≤ 100) (R : Bool) (B : Nat) (h1 : (∀ k, k < i → 0 ≤ o.getD i 0 → o.getD k 0 ≠ o.getD i 0) → ∀ K, B ≤ K → quinariaref02_Planned.l0 K ages need untl o (wrap64 ((i : Int) + 1)) sp st = some R) (h2 : (¬ ∀ k, k < i → 0 ≤ o.getD i 0 → o.getD k 0 ≠ o.getD i 0) → R = false) :
    ∀ (d j K : Nat), j + d = i → B + d < K → (∀ k, k < j → 0 ≤ o.getD i 0 → o.getD k 0 ≠ o.getD i 0) → quinariaref02_Planned.l1 K ages need untl o (i : Int) (j : Int) sp st = some R := by
  intro d
  induction d with
  | zero =>
    intro j K hj hK hall
    obtain ⟨K, rfl⟩ : ∃ k, K = k + 1 := ⟨K - 1, by omega⟩
    rw [quinariaref02_Planned.l1, if_neg (by omega)]
    exact h1 (fun k hk => hall k (by omega)) K (by omega)
  | succ d ih =>
    intro j K hj hK hall
    obtain ⟨K, rfl⟩ : ∃ k, K = k + 1 := ⟨K - 1, by omega⟩
    have e1 : wrap64 ((j : Int) + 1) = ((j + 1 : Nat) : Int) := w1n j (by omega)
    rw [quinariaref02_Planned.l1, if_pos (by omega), if_pos (by omega), if_pos (by omega), rd_at, rd_at, e1]
    clear e1
    by_cases hp : o.getD i 0 ≥ 0
    · rw [if_pos hp, if_pos (by omega), if_pos (by omega)]
      by_cases e : o.getD j 0 = o.getD i 0
      · rw [if_pos e, h2 (fun h => h j (by omega) hp e)]
      · rw [if_neg e]
        refine ih (j + 1) K (by omega) (by omega) (fun k hk h0 => ?_)
        by_cases ek : k = j
        · subst ek; exact e
        · exact hall k (by omega) h0
    · rw [if_neg hp]
      exact ih (j + 1) K (by omega) (by omega) (fun k hk h0 => absurd h0 hp)
theorem planned_ok (hb : planB sp st ages need untl = true) (o : List Int) (ho : o.length = ages.length) : ∀ (d j : Nat), j + d = ages.length → ∃ b, (b = true ↔ ∀ i, j ≤ i → i < ages.length → PlAt sp st ages need untl o i) ∧ ∀ K, d * 20 + 400 < K → quinariaref02_Planned.l0 K ages need untl o (j : Int) sp st = some b := by
  obtain ⟨h, hg, hn, hu⟩ := planB_parts hb
  obtain ⟨hal, hall⟩ := ages_all hg
  have hlen := line_lens h
  have hu' : untl ≤ 40 := by simp [inB] at hu; omega
  intro d
  induction d with
  | zero =>
    intro j hj
    refine ⟨true, by simp; intro i h1 h2; omega, fun K hK => ?_⟩
    obtain ⟨K, rfl⟩ : ∃ k, K = k + 1 := ⟨K - 1, by omega⟩
    rw [quinariaref02_Planned.l0, if_neg (by omega)]
  | succ d ih =>
    intro j hj
    obtain ⟨hjn, hjs, hjb, hnx, i0, i1, i2, ew⟩ := plan_ar hj hal hlen.2.2.2
    have hna := numB_of hjs
    have haa := age_range (hall _ (getD_mem 0 hjn))
    have hlr := latN_range sp st (j : Int) need
    obtain ⟨b, hbb, hrun⟩ := ih (j + 1) hnx
    have hsplit : (∀ i, j ≤ i → i < ages.length → PlAt sp st ages need untl o i) ↔ PlAt sp st ages need untl o j ∧ ∀ i, j + 1 ≤ i → i < ages.length → PlAt sp st ages need untl o i :=
      ⟨fun h => ⟨h j (Nat.le_refl _) hjn, fun i h1 h2 => h i (by omega) h2⟩, fun h i h1 h2 => by
        by_cases e : i = j
        · subst e; exact h.1
        · exact h.2 i (by omega) h2⟩
    have io : (j : Int) < (o.length : Int) := by omega
    
    have hpart : ∀ c : Bool, (c = false ↔ 0 ≤ latN sp st (j : Int) need ∧ (if dueB (theL sp st need) (an ages) untl j = true then 0 ≤ o.getD j 0 ∧ o.getD j 0 ≤ latN sp st (j : Int) need - ages.getD j 0 else o.getD j 0 = -1)) → ∃ b', (b' = true ↔ ∀ i, j ≤ i → i < ages.length → PlAt sp st ages need untl o i) ∧ ∀ K, d * 20 + 418 < K → quinariaref02_Planned.j1 K ages need untl o (j : Int) c sp st = some b' := fun c hc => by
      cases c with
      | true =>
        refine ⟨false, ?_, fun K hK => ?_⟩
        · rw [hsplit]
          constructor
          · intro h; cases h
          · rintro ⟨⟨a1, a2, -⟩, -⟩
            exact absurd (hc.mpr ⟨a1, a2⟩) (by simp)
        · obtain ⟨K, rfl⟩ : ∃ k, K = k + 1 := ⟨K - 1, by omega⟩
          rw [quinariaref02_Planned.j1, if_pos rfl]
      | false =>
        obtain ⟨a1, a2⟩ := hc.mp rfl
        classical
        refine ⟨decide ((∀ k, k < j → 0 ≤ o.getD j 0 → o.getD k 0 ≠ o.getD j 0) ∧ b = true), ?_, fun K hK => ?_⟩
        · rw [decide_eq_true_iff, hsplit, hbb]
          exact ⟨fun ⟨h1, h2⟩ => ⟨⟨a1, a2, h1⟩, h2⟩, fun ⟨h1, h2⟩ => ⟨h1.2.2, h2⟩⟩
        · obtain ⟨K, rfl⟩ : ∃ k, K = k + 1 := ⟨K - 1, by omega⟩
          rw [quinariaref02_Planned.j1, if_neg (by simp)]
          refine planned_l1 o j (by omega) (by omega) _ (d * 20 + 401) (fun hh K' hK' => ?_) (fun hh => ?_) j 0 K (by omega) (by omega) (fun k hk => by omega)
          · rw [ew.out, hrun K' (by omega)]
            congr 1
            cases b with
            | true => symm; rw [decide_eq_true_iff]; exact ⟨hh, rfl⟩
            | false => symm; rw [decide_eq_false_iff_not]; intro h; cases h.2
          · rw [decide_eq_false_iff_not]
            exact fun h => hh h.1
    by_cases hneg : latN sp st (j : Int) need < 0
    · obtain ⟨b', hb', hr'⟩ := hpart true (Iff.intro (fun h => by cases h) (fun h => by have := h.1; omega))
      refine ⟨b', hb', fun K hK => ?_⟩
      obtain ⟨K, rfl⟩ : ∃ k, K = k + 1 := ⟨K - 1, by omega⟩
      rw [quinariaref02_Planned.l0, if_pos io, if_pos i0, if_pos i1, rd_at, rlast_f h hna need _ untl haa.1 haa.2 K (by omega), Option.bind_some, rlat_f h hna need K (by omega), Option.bind_some, if_pos hneg]
      exact hr' K (by omega)
    · obtain ⟨v1, v2⟩ := lastV_due (a := ages.getD j 0) (show 0 ≤ latN sp st (j : Int) need by omega) hlr.2 hu'
      have hstep : ∀ K, 400 < K → quinariaref02_Planned.l0 (K + 1) ages need untl o (j : Int) sp st = (if lastV (latN sp st (j : Int) need) (ages.getD j 0) untl = 1000 then (if o.getD j 0 = (-1) then (quinariaref02_Planned.j1 K ages need untl o (j : Int) false sp st) else (quinariaref02_Planned.j1 K ages need untl o (j : Int) true sp st)) else (quinariaref02_Planned.j1 K ages need untl o (j : Int) (!inB (o.getD j 0) 0 (lastV (latN sp st (j : Int) need) (ages.getD j 0) untl)) sp st)) := fun K hK => by
        rw [quinariaref02_Planned.l0, if_pos io, if_pos i0, if_pos i1, rd_at, rd_at, rlast_f h hna need _ untl haa.1 haa.2 K (by omega), Option.bind_some, rlat_f h hna need K (by omega), Option.bind_some, if_neg hneg, inR_f, Option.bind_some]
      have hdue : dueB (theL sp st need) (an ages) untl j = true ↔ (latN sp st (j : Int) need < 200 ∧ latN sp st (j : Int) need - ages.getD j 0 < untl) := by unfold dueB; rw [Bool.and_eq_true, decide_eq_true_iff, decide_eq_true_iff]; rfl
      by_cases hyes : latN sp st (j : Int) need < 200 ∧ latN sp st (j : Int) need - ages.getD j 0 < untl
      · have e := v2 hyes
        obtain ⟨b', hb', hr'⟩ := hpart (!inB (o.getD j 0) 0 (latN sp st (j : Int) need - ages.getD j 0)) (by
          rw [if_pos (hdue.mpr hyes)]
          simp only [inB, Bool.not_eq_false', Bool.and_eq_true, decide_eq_true_eq]
          exact ⟨fun h => ⟨by omega, h⟩, fun h => h.2⟩)
        refine ⟨b', hb', fun K hK => ?_⟩
        obtain ⟨K, rfl⟩ : ∃ k, K = k + 1 := ⟨K - 1, by omega⟩
        rw [hstep K (by omega), if_neg (fun hh => v1.mp hh hyes), e]
        exact hr' K (by omega)
      · have hnd : ¬ dueB (theL sp st need) (an ages) untl j = true := fun hh => hyes (hdue.mp hh)
        by_cases hm : o.getD j 0 = -1
        · obtain ⟨b', hb', hr'⟩ := hpart false (Iff.intro (fun _ => ⟨by omega, by rw [if_neg hnd]; exact hm⟩) (fun _ => rfl))
          refine ⟨b', hb', fun K hK => ?_⟩
          obtain ⟨K, rfl⟩ : ∃ k, K = k + 1 := ⟨K - 1, by omega⟩
          rw [hstep K (by omega), if_pos (v1.mpr hyes), if_pos hm]
          exact hr' K (by omega)
        · obtain ⟨b', hb', hr'⟩ := hpart true (Iff.intro (fun h => by cases h) (fun h => by rw [if_neg hnd] at h; exact absurd h.2 hm))
          refine ⟨b', hb', fun K hK => ?_⟩
          obtain ⟨K, rfl⟩ : ∃ k, K = k + 1 := ⟨K - 1, by omega⟩
          rw [hstep K (by omega), if_pos (v1.mpr hyes), if_neg hm]
          exact hr' K (by omega)
theorem planned_f (hb : planB sp st ages need untl = true) (o : List Int) : ∃ b, (b = true ↔ PlanIs sp st ages need untl o) ∧ ∀ K, 1000 < K → quinariaref02_Planned.f K sp st ages need untl o = some b := by
  obtain ⟨h, hg, hn, hu⟩ := planB_parts hb
  obtain ⟨hal, hall⟩ := ages_all hg
  have hlen := line_lens h
  by_cases ho : o.length = ages.length
  · obtain ⟨b, h1, h2⟩ := planned_ok hb o ho ages.length 0 (by omega)
    refine ⟨b, h1.trans (Iff.intro (fun h => ⟨ho, fun i hi => h i (by omega) hi⟩) (fun h i _ hi => h.at_ i hi)), fun K hK => ?_⟩
    unfold quinariaref02_Planned.f
    rw [if_pos (by omega)]
    exact h2 K (by omega)
  · refine ⟨false, Iff.intro (fun h => by cases h) (fun h => absurd h.len ho), fun K hK => ?_⟩
    unfold quinariaref02_Planned.f
    rw [if_neg (by omega)]
def duePart (L a : Nat → Int) (untl : Int) (o : List Int) : Nat → List Int
  | 0 => []
  | k + 1 => duePart L a untl o k ++ if dueB L a untl k = true then [o.getD k 0] else []
section
variable (L a : Nat → Int)
theorem duePart_len (o : List Int) : ∀ k, (duePart L a untl o k).length = rank L a untl k
  | 0 => (rank_zero ..).symm
  | k + 1 => by
    rw [rank_succ, duePart, List.length_append, duePart_len o k]
    split <;> rfl
theorem duePart_get (o : List Int) : ∀ {k i : Nat}, i < k → dueB L a untl i = true → (duePart L a untl o k).getD (rank L a untl i) 0 = o.getD i 0
  | k + 1, i, hi, hd => by
    have hlen := duePart_len (untl := untl) L a o k
    rw [duePart]
    by_cases e : i = k
    · subst e
      rw [if_pos hd, List.getD, List.getElem?_append_right (by omega), hlen]
      simp
    · have hlt := rank_lt L a untl (show i < k by omega) hd
      have := duePart_get o (show i < k by omega) hd
      rw [List.getD] at this ⊢
      rw [List.getElem?_append_left (by omega)]
      exact this
end
theorem cge_le : ∀ {F l : List Int}, F.length = l.length → (∀ i, i < F.length → F.getD i 0 ≤ l.getD i 0) → ∀ t, Pl.cge F t ≤ Pl.cge l t
  | [], [], _, _, t => Nat.le_refl _
  | x :: F, y :: l, hl, hle, t => by
    rw [Pl.cge_cons, Pl.cge_cons]
    have h0 := hle 0 (by simp)
    have ih := cge_le (F := F) (l := l) (by simpa using hl) (fun i hi => by have := hle (i + 1) (by simpa using hi); simpa using this) t
    simp at h0
    split <;> split <;> omega
theorem plan_years (hb : planB sp st ages need untl = true) {o : List Int} (ho : PlanIs sp st ages need untl o) : ∃ due last, dueF (fun n => latN sp st n need) ages untl ages.length = some (due, last) ∧
    Pl.Feas last (duePart (theL sp st need) (an ages) untl o ages.length) ∧ (duePart (theL sp st need) (an ages) untl o ages.length).length = last.length ∧ ∀ m, m < last.length → (duePart (theL sp st need) (an ages) untl o ages.length).getD m 0 ≤ last.getD m 0 := by
  obtain ⟨h, hg, hn, hu⟩ := planB_parts hb
  have hu' : untl ≤ 40 := by simp [inB] at hu; omega
  have hsome : ∀ k, k ≤ ages.length → ∃ s, dueF (fun n => latN sp st n need) ages untl k = some s := by
    intro k
    induction k with
    | zero => intro _; exact ⟨_, rfl⟩
    | succ k ih =>
      intro hk
      obtain ⟨s, hs⟩ := ih (by omega)
      have := (ho.at_ k (by omega)).1
      refine ⟨stepDue (latN sp st (k : Int) need) (rd ages (k : Int)) untl k s, ?_⟩
      show (dueF (fun n => latN sp st n need) ages untl k).bind _ = _
      rw [hs]
      show (if latN sp st (k : Int) need < 0 then none else some (stepDue (latN sp st (k : Int) need) (rd ages (k : Int)) untl k s)) = _
      rw [if_neg (by omega)]
  obtain ⟨⟨due, last⟩, hd⟩ := hsome ages.length (Nat.le_refl _)
  obtain ⟨d1, d2, d3, d4⟩ := dueF_spec hd
  have d1' : due.length = rank (theL sp st need) (an ages) untl ages.length := d1
  have d4' : ∀ i, i < ages.length → dueB (theL sp st need) (an ages) untl i = true → last.getD (rank (theL sp st need) (an ages) untl i) 0 = latN sp st (i : Int) need - ages.getD i 0 := fun i hi hdi => (d4 i hi hdi).2
  have hFl := duePart_len (untl := untl) (theL sp st need) (an ages) o ages.length
  have hFg := fun {i : Nat} (hi : i < ages.length) (hd : dueB (theL sp st need) (an ages) untl i = true) => duePart_get (untl := untl) (theL sp st need) (an ages) o hi hd
  have hat : ∀ m, m < last.length → ∃ z, z < ages.length ∧ dueB (theL sp st need) (an ages) untl z = true ∧ rank (theL sp st need) (an ages) untl z = m := fun m hm => rank_has _ _ _ (by omega)
  generalize duePart (theL sp st need) (an ages) untl o ages.length = F at *
  have hle : ∀ m, m < last.length → F.getD m 0 ≤ last.getD m 0 ∧ 0 ≤ F.getD m 0 ∧ F.getD m 0 ≤ 40 := fun m hm => by
    obtain ⟨z, z1, z2, rfl⟩ := hat m hm
    obtain ⟨a1, a2, -⟩ := ho.at_ z z1
    rw [if_pos z2] at a2
    rw [hFg z1 z2, d4' z z1 z2]
    have hz2 : latN sp st (z : Int) need < 200 ∧ latN sp st (z : Int) need - ages.getD z 0 < untl := by unfold dueB at z2; rw [Bool.and_eq_true, decide_eq_true_iff, decide_eq_true_iff] at z2; exact z2
    omega
  have hll : F.length = last.length := by omega
  refine ⟨due, last, hd, ⟨?_, ?_, ?_⟩, hll, fun m hm => (hle m hm).1⟩
  · show F.Pairwise (· ≠ ·)
    refine List.pairwise_iff_getElem.mpr fun m m' hm hm' hlt => ?_
    obtain ⟨z, z1, z2, z3⟩ := hat m (by omega)
    obtain ⟨z', z1', z2', z3'⟩ := hat m' (by omega)
    have hzz : z < z' := by
      rcases Nat.lt_trichotomy z z' with h | h | h
      · exact h
      · subst h; omega
      · have := rank_lt (theL sp st need) (an ages) untl h z2'; omega
    have e := hFg z1 z2
    have e' := hFg z1' z2'
    rw [z3] at e
    rw [z3'] at e'
    rw [getD_at hm] at e
    rw [getD_at hm'] at e'
    rw [e, e']
    exact (ho.at_ z' z1').2.2 z hzz (by have := (hle m' (by omega)).2.1; rw [getD_at hm'] at this; omega)
  · intro x hx
    obtain ⟨m, hm, rfl⟩ := List.mem_iff_getElem.mp hx
    have := hle m (by omega)
    rw [getD_at hm] at this
    omega
  · exact cge_le hll fun m hm => (hle m (by omega)).1
theorem noPlan_not (hb : planB sp st ages need untl = true) (hno : NoPlan sp st ages need untl) (o : List Int) : ¬ PlanIs sp st ages need untl o := fun ho => by
  obtain ⟨due, last, hd, hf, hl, -⟩ := plan_years hb ho
  rcases hno with h1 | ⟨due', last', h1, h2⟩
  · rw [hd] at h1; cases h1
  · rw [hd] at h1
    obtain ⟨rfl, rfl⟩ := Prod.mk.inj (Option.some.inj h1)
    have := Pl.feas_whole hf hl
    rw [gr_eq] at this
    exact h2 this
theorem planL_at {L a : Nat → Int} {n x : Nat} (p : List Int) (hx : x < n) : (planL L a untl n p).getD x 0 = if dueB L a untl x = true then p.getD (rank L a untl x) 0 else -1 := by
  rw [getD_at (by rw [planL_len]; exact hx)]
  exact planL_get _ _ _ _ hx _
theorem best_is (hb : planB sp st ages need untl = true) {due last p : List Int} (hp : BestP sp st ages need untl due last p) : PlanIs sp st ages need untl (planL (theL sp st need) (an ages) untl ages.length p) := by
  obtain ⟨d1, d2, d3, d4⟩ := dueF_spec hp.due
  have d1' : due.length = rank (theL sp st need) (an ages) untl ages.length := d1
  have d4' : ∀ i, i < ages.length → dueB (theL sp st need) (an ages) untl i = true → last.getD (rank (theL sp st need) (an ages) untl i) 0 = latN sp st (i : Int) need - ages.getD i 0 := fun i hi hdi => (d4 i hi hdi).2
  have hpl := Pl.least_len hp.least
  have hpp := Pl.least_perm hp.least hp.len
  have hnd : p.Nodup := hpp.nodup_iff.mpr (grN_nodup last)
  have hr : ∀ m, m < p.length → 0 ≤ p.getD m 0 := fun m hm => by
    rw [getD_at hm]
    exact (grN_range last _ (hpp.subset (List.getElem_mem hm))).1
  have hle : ∀ m, m < last.length → p.getD m 0 ≤ last.getD m 0 := fun m hm => by
    have := Pl.least_le hp.least m hm
    rw [getD_at (by omega), getD_at hm]
    exact this
  refine ⟨planL_len .., fun i hi => ⟨d3 i hi, ?_, fun k hk h0 e => ?_⟩⟩
  · rw [planL_at _ hi]
    by_cases hd : dueB (theL sp st need) (an ages) untl i = true
    · have hlt := rank_lt (theL sp st need) (an ages) untl hi hd
      rw [if_pos hd, if_pos hd, ← d4' i hi hd]
      exact ⟨hr _ (by omega), hle _ (by omega)⟩
    · rw [if_neg hd, if_neg hd]
  · rw [planL_at _ hi] at h0 e
    rw [planL_at _ (show k < ages.length by omega)] at e
    by_cases hd : dueB (theL sp st need) (an ages) untl i = true
    · rw [if_pos hd] at h0 e
      by_cases hdk : dueB (theL sp st need) (an ages) untl k = true
      · rw [if_pos hdk] at e
        have l1 := rank_lt (theL sp st need) (an ages) untl hk hdk
        have l2 := rank_lt (theL sp st need) (an ages) untl hi hd
        rw [getD_at (by omega), getD_at (by omega)] at e
        have := (List.getElem_inj hnd).mp e
        omega
      · rw [if_neg hdk] at e
        omega
    · rw [if_neg hd] at h0
      omega
def sumN : List Int → Int
  | [] => 0
  | x :: l => mx 0 x + sumN l
theorem sumN_append (l m : List Int) : sumN (l ++ m) = sumN l + sumN m := by
  induction l with
  | nil => simp [sumN]
  | cons a l ih => simp only [List.cons_append, sumN, ih]; omega
theorem sum_from (l : List Int) (hl : l.length ≤ 1000) (hx : ∀ x ∈ l, x ≤ 40) : ∀ (rest : List Int) (j K : Nat) (acc : Int), l.drop j = rest → 0 ≤ acc → acc ≤ 40 * (j : Int) → rest.length < K → quinariaref02_Sum.l0 K l acc (j : Int) = some (acc + sumN rest)
  | [], j, K + 1, acc, hd, h0, h1, hK => by
    have : l.length ≤ j := by simpa using hd
    unfold quinariaref02_Sum.l0
    rw [if_neg (by omega), sumN, Int.add_zero]
  | a :: rest, j, K + 1, acc, hd, h0, h1, hK => by
    obtain ⟨hj, hd1, -⟩ := drop_get hd
    have hm : a ≤ 40 := hx a (by have : a ∈ l.drop j := by rw [hd]; exact List.mem_cons_self ..
                                 exact List.mem_of_mem_drop this)
    have e : 0 ≤ mx 0 a ∧ mx 0 a ≤ 40 := by unfold mx; split <;> omega
    unfold quinariaref02_Sum.l0
    rw [if_pos (by omega), if_pos (by omega), rd_drop hd, w1n j (by omega), IntWalk.wrap64_in _ (by omega), sumN, ← Int.add_assoc]
    have ih := sum_from l hl hx rest (j + 1) K (acc + mx 0 a) hd1 (by omega) (by rw [Int.natCast_add]; omega) (by simp at hK; omega)
    exact ih
theorem sum_f (l : List Int) (hl : l.length ≤ 100) (hx : ∀ x ∈ l, x ≤ 40) (K : Nat) (hK : 100 < K) : quinariaref02_Sum.f K l = some (sumN l) := by
  unfold quinariaref02_Sum.f
  have := sum_from l (by omega) hx l 0 K 0 rfl (by omega) (by omega) (by omega)
  rwa [Int.zero_add] at this
theorem before_from (a b : List Int) (hl : a.length = b.length) (hl2 : a.length ≤ 1000) : ∀ (d j K : Nat), j + d = a.length → 2 * d + 2 < K → quinariaref02_Before.l0 K a b (j : Int) = some (Pl.before (a.drop j) (b.drop j)) := by
  intro d
  induction d with
  | zero =>
    intro j K hj hK
    obtain ⟨K, rfl⟩ : ∃ k, K = k + 1 + 1 := ⟨K - 2, by omega⟩
    rw [quinariaref02_Before.l0, if_neg (by omega), quinariaref02_Before.j1, if_neg (by simp), List.drop_eq_nil_of_le (by omega), decide_eq_false (by omega)]
    rfl
  | succ d ih =>
    intro j K hj hK
    obtain ⟨K, rfl⟩ : ∃ k, K = k + 1 + 1 := ⟨K - 2, by omega⟩
    have hja : j < a.length := by omega
    have hjb : j < b.length := by omega
    have i0 : (0 : Int) ≤ (j : Int) := by omega
    have i1 : (j : Int) < (a.length : Int) := by omega
    have i2 : (j : Int) < (b.length : Int) := by omega
    have ih := ih (j + 1) K (by omega) (by omega)
    rw [quinariaref02_Before.l0, if_pos i1, decide_eq_true i2, quinariaref02_Before.j1, if_pos rfl, if_pos i0, if_pos i1, if_pos i2, rd_at, rd_at, getD_at hja, getD_at hjb, List.drop_eq_getElem_cons hja, List.drop_eq_getElem_cons hjb]
    unfold Pl.before
    by_cases e : a[j] = b[j]
    · rw [if_pos e, if_pos e, w1n j (by omega)]
      exact ih
    · rw [if_neg e, if_neg e]
theorem before_f (a b : List Int) (hl : a.length = b.length) (hl2 : a.length ≤ 100) (K : Nat) (hK : 300 < K) : quinariaref02_Before.f K a b = some (Pl.before a b) := by
  unfold quinariaref02_Before.f
  exact before_from a b hl (by omega) a.length 0 K (by omega) (by omega)
theorem before_iff : ∀ (a b : List Int), Pl.before a b = true ↔ ∃ m, m < a.length ∧ m < b.length ∧ (∀ x, x < m → a.getD x 0 = b.getD x 0) ∧ a.getD m 0 < b.getD m 0
  | [], b => by simp [Pl.before]
  | a :: l, [] => by simp [Pl.before]
  | a :: l, b :: k => by
    unfold Pl.before
    by_cases e : a = b
    · subst e
      rw [if_pos rfl, before_iff l k]
      constructor
      · rintro ⟨m, h1, h2, h3, h4⟩
        refine ⟨m + 1, by simpa using h1, by simpa using h2, fun x hx => ?_, by simpa using h4⟩
        cases x with
        | zero => simp
        | succ x => simpa using h3 x (by omega)
      · rintro ⟨m, h1, h2, h3, h4⟩
        cases m with
        | zero => simp at h4
        | succ m => exact ⟨m, by simpa using h1, by simpa using h2, fun x hx => by simpa using h3 (x + 1) (by omega), by simpa using h4⟩
    · rw [if_neg e, decide_eq_true_iff]
      constructor
      · intro h
        exact ⟨0, by simp, by simp, fun x hx => by omega, by simpa using h⟩
      · rintro ⟨m, h1, h2, h3, h4⟩
        cases m with
        | zero => simpa using h4
        | succ m => exact absurd (by simpa using h3 0 (by omega)) e
theorem sumN_due {o : List Int} (ho : PlanIs sp st ages need untl o) : ∀ k, k ≤ ages.length → sumN (o.take k) = Pl.total (duePart (theL sp st need) (an ages) untl o k)
  | 0, _ => rfl
  | k + 1, hk => by
    have hko : k < o.length := by rw [ho.len]; omega
    have ih := sumN_due ho k (by omega)
    obtain ⟨a1, a2, -⟩ := ho.at_ k (by omega)
    have e : o.take (k + 1) = o.take k ++ [o.getD k 0] := by rw [List.take_add_one, List.getElem?_eq_getElem hko, getD_at hko]; rfl
    have tot : ∀ (l m : List Int), Pl.total (l ++ m) = Pl.total l + Pl.total m := fun l m => by
      induction l with
      | nil => simp [Pl.total]
      | cons x l ih => simp only [Pl.total, List.cons_append, List.foldr_cons] at ih ⊢; omega
    rw [e, sumN_append, ih, duePart, tot]
    congr 1
    by_cases hd : dueB (theL sp st need) (an ages) untl k = true
    · rw [if_pos hd] at a2 ⊢
      have : mx 0 (o.getD k 0) = o.getD k 0 := by unfold mx; split <;> omega
      show mx 0 (o.getD k 0) + 0 = o.getD k 0 + 0
      rw [this]
    · rw [if_neg hd] at a2 ⊢
      rw [a2]; rfl
theorem duePart_best {p : List Int} {n : Nat} (hp : p.length = rank (theL sp st need) (an ages) untl n) : ∀ k, k ≤ n → duePart (theL sp st need) (an ages) untl (planL (theL sp st need) (an ages) untl n p) k = p.take (rank (theL sp st need) (an ages) untl k)
  | 0, _ => by rw [rank_zero]; rfl
  | k + 1, hk => by
    rw [duePart, duePart_best hp k (by omega), rank_succ]
    by_cases hd : dueB (theL sp st need) (an ages) untl k = true
    · have hlt := rank_lt (theL sp st need) (an ages) untl (show k < n by omega) hd
      rw [if_pos hd, if_pos hd, planL_at _ (by omega), if_pos hd, List.take_add_one, List.getElem?_eq_getElem (by omega), getD_at (by omega)]
      rfl
    · rw [if_neg hd, if_neg hd, List.append_nil, Nat.add_zero]
theorem planIs_range {o : List Int} (hb : planB sp st ages need untl = true) (ho : PlanIs sp st ages need untl o) : ∀ x ∈ o, -1 ≤ x ∧ x ≤ 40 := fun x hx => by
  obtain ⟨h, hg, hn, hu⟩ := planB_parts hb
  have hu' : untl ≤ 40 := by simp [inB] at hu; omega
  obtain ⟨i, hi, rfl⟩ := List.mem_iff_getElem.mp hx
  rw [← getD_at hi]
  obtain ⟨a1, a2, -⟩ := ho.at_ i (by rw [← ho.len]; exact hi)
  by_cases hd : dueB (theL sp st need) (an ages) untl i = true
  · rw [if_pos hd] at a2
    have hz2 : latN sp st (i : Int) need < 200 ∧ latN sp st (i : Int) need - ages.getD i 0 < untl := by unfold dueB at hd; rw [Bool.and_eq_true, decide_eq_true_iff, decide_eq_true_iff] at hd; exact hd
    omega
  · rw [if_neg hd] at a2
    omega
theorem best_best (hb : planB sp st ages need untl = true) {due last p o : List Int} (hp : BestP sp st ages need untl due last p) (ho : PlanIs sp st ages need untl o) :
    sumN o ≤ sumN (planL (theL sp st need) (an ages) untl ages.length p) ∧ (sumN o = sumN (planL (theL sp st need) (an ages) untl ages.length p) → Pl.before o (planL (theL sp st need) (an ages) untl ages.length p) = false) := by
  obtain ⟨due', last', hd, hf, hl, hle⟩ := plan_years hb ho
  have := hp.due.symm.trans hd
  obtain ⟨rfl, rfl⟩ := Prod.mk.inj (Option.some.inj this)
  obtain ⟨d1, d2, d3, d4⟩ := dueF_spec hd
  have d1' : due.length = rank (theL sp st need) (an ages) untl ages.length := d1
  have hpl := Pl.least_len hp.least
  have hpp := Pl.least_perm hp.least hp.len
  have hbi := best_is hb hp
  have e1 := sumN_due ho ages.length (Nat.le_refl _)
  have e2 := sumN_due hbi ages.length (Nat.le_refl _)
  have t1 : o.take ages.length = o := List.take_of_length_le (by rw [ho.len]; exact Nat.le_refl _)
  have t2 : (planL (theL sp st need) (an ages) untl ages.length p).take ages.length = planL (theL sp st need) (an ages) untl ages.length p := List.take_of_length_le (by rw [planL_len]; exact Nat.le_refl _)
  have t3 := duePart_best (sp := sp) (st := st) (ages := ages) (need := need) (untl := untl) (p := p) (n := ages.length) (by rw [hpl, d2, d1']) ages.length (Nat.le_refl _)
  have t4 : p.take (rank (theL sp st need) (an ages) untl ages.length) = p := List.take_of_length_le (by rw [hpl, d2, d1']; exact Nat.le_refl _)
  rw [t3, t4] at e2
  rw [t1] at e1
  rw [t2] at e2
  have hs := Pl.feas_sum hf
  have hg : Pl.total p = Pl.total (Pl.gr last) := by rw [gr_eq]; exact Pl.total_perm hpp
  have hFg := fun {i : Nat} (hi : i < ages.length) (hd : dueB (theL sp st need) (an ages) untl i = true) => duePart_get (untl := untl) (theL sp st need) (an ages) o hi hd
  have hFl := duePart_len (untl := untl) (theL sp st need) (an ages) o ages.length
  rw [e1, e2, hg]
  refine ⟨hs, fun heq => ?_⟩
  have hperm := Pl.feas_perm hf hl heq
  rw [gr_eq] at hperm
  have hno := Pl.least_first hp.least hperm hl (fun i hi => by
    have := hle i hi
    rwa [getD_at (by omega), getD_at hi] at this)
  cases hbef : Pl.before o (planL (theL sp st need) (an ages) untl ages.length p) with
  | false => rfl
  | true =>
    obtain ⟨m, h1, h2, h3, h4⟩ := (before_iff _ _).mp hbef
    rw [planL_len] at h2
    rw [planL_at _ h2] at h4
    obtain ⟨a1, a2, -⟩ := ho.at_ m h2
    by_cases hdm : dueB (theL sp st need) (an ages) untl m = true
    · rw [if_pos hdm] at h4
      have hlt := rank_lt (theL sp st need) (an ages) untl h2 hdm
      have : Pl.before (duePart (theL sp st need) (an ages) untl o ages.length) p = true := (before_iff _ _).mpr ⟨rank (theL sp st need) (an ages) untl m, by omega, by omega, fun x hx => by
        obtain ⟨z, z1, z2, rfl⟩ := rank_has _ _ _ hx
        rw [hFg (by omega) z2, h3 z z1, planL_at _ (by omega), if_pos z2], by rw [hFg h2 hdm]; exact h4⟩
      rw [hno] at this
      cases this
    · rw [if_neg hdm] at h4 a2
      omega
theorem better_l0 (hb : planB sp st ages need untl = true) {o l : List Int} {is : Bool} (hl : PlanIs sp st ages need untl l) (his : is = true → PlanIs sp st ages need untl o) (hbest : is = true → sumN o ≤ sumN l ∧ (sumN o = sumN l → Pl.before o l = false)) :
    ∀ (d j K : Nat), j + d = ages.length → 2 * d + 400 < K → quinarialaw02_ChannelBetter.l0 K ages need o l is (j : Int) sp st = some true := by
  obtain ⟨h, hg, hn, hu⟩ := planB_parts hb
  obtain ⟨hal, hall⟩ := ages_all hg
  have hlen := line_lens h
  intro d
  induction d with
  | zero =>
    intro j K hj hK
    obtain ⟨K, rfl⟩ : ∃ k, K = k + 1 := ⟨K - 1, by omega⟩
    have hll := hl.len
    rw [quinarialaw02_ChannelBetter.l0, if_neg (by omega), sum_f l (by omega) (fun x hx => (planIs_range hb hl x hx).2) K (by omega), Option.bind_some]
    cases is with
    | false => rw [if_neg (by simp)]; rfl
    | true =>
      have ho := his rfl
      have hol := ho.len
      obtain ⟨h1, h2⟩ := hbest rfl
      rw [if_pos rfl, sum_f o (by omega) (fun x hx => (planIs_range hb ho x hx).2) K (by omega), Option.bind_some]
      by_cases hlt : sumN o < sumN l
      · rw [if_pos hlt]; rfl
      · rw [if_neg hlt, if_pos (by omega), before_f o l (by omega) (by omega) K (by omega), Option.bind_some, h2 (by omega), if_neg (by simp)]
        rfl
  | succ d ih =>
    intro j K hj hK
    obtain ⟨K, rfl⟩ : ∃ k, K = k + 1 + 1 := ⟨K - 2, by omega⟩
    obtain ⟨hjn, hjs, hjb, hnx, i0, i1, i2, ew⟩ := plan_ar hj hal hlen.2.2.2
    have hna := numB_of hjs
    have haa := age_range (hall _ (getD_mem 0 hjn))
    have hlr := latN_range sp st (j : Int) need
    have hll := hl.len
    have il : (j : Int) < (l.length : Int) := by omega
    have ih := ih (j + 1) K hnx (by omega)
    have hj3 : quinarialaw02_ChannelBetter.j3 (K + 1) ages need o l is (j : Int) (wrap64 (ages.getD j 0 + mx 0 (l.getD j 0))) false sp st = some true := by
      rw [quinarialaw02_ChannelBetter.j3, if_neg (by simp), ew.out]
      exact ih
    rw [quinarialaw02_ChannelBetter.l0, if_pos il, if_pos i0, if_pos i1, rd_at, rd_at]
    by_cases hge : l.getD j 0 ≥ 0
    · rw [if_pos hge]
      obtain ⟨a1, a2, -⟩ := hl.at_ j hjn
      by_cases hd : dueB (theL sp st need) (an ages) untl j = true
      · rw [if_pos hd] at a2
        have e1 : mx 0 (l.getD j 0) = l.getD j 0 := by unfold mx; split <;> omega
        have e2 : wrap64 (ages.getD j 0 + mx 0 (l.getD j 0)) = ages.getD j 0 + l.getD j 0 := by rw [e1, IntWalk.wrap64_in _ (by omega)]
        have hin : inB (ages.getD j 0 + l.getD j 0) 0 200 = true := by
          clear e2
          simp only [inB, Bool.and_eq_true, decide_eq_true_eq]
          omega
        have hneed := (latN_iff h hna need (a := ages.getD j 0 + l.getD j 0) (by clear e2; omega) (by clear e2; omega)).mpr (by clear e2; omega)
        rw [e2]
        clear e2 hj3
        unfold quinariaref02_Age.f
        rw [inR_f, Option.bind_some, Option.bind_some, hin, quinarialaw02_ChannelBetter.j3, if_pos rfl, carries_f (by omega) (by omega) _ _ K (by omega), Option.bind_some]
        have e3 : carriesF sp st (j : Int) (ages.getD j 0 + l.getD j 0) = (leastN sp st (j : Int) (ages.getD j 0 + l.getD j 0), mostN sp st (j : Int) (ages.getD j 0 + l.getD j 0), 0) := if_pos ⟨h, hna, hin⟩
        rw [e3]
        simp only [if_true]
        rw [if_neg (by omega), ew.out]
        exact ih
      · rw [if_neg hd] at a2
        omega
    · rw [if_neg hge]
      exact hj3
theorem better_go (hb : planB sp st ages need untl = true) (o : List Int) : quinarialaw02_ChannelBetter.j0 (3000 + 1 + 1) ages need untl o false sp st = some true := by
  obtain ⟨h, hg, hn, hu⟩ := planB_parts hb
  obtain ⟨hal, hall⟩ := ages_all hg
  have hlen := line_lens h
  obtain ⟨b, hbi, hbf⟩ := planned_f hb o
  rw [quinarialaw02_ChannelBetter.j0, if_neg (by simp), planC_f (by omega) (by omega) (by omega), Option.bind_some, hbf _ (by omega), Option.bind_some]
  rcases plan_code hb with ⟨h1, h2⟩ | ⟨due, last, p, h1, h2⟩
  · rw [h2]
    have : b = false := by
      cases b with
      | false => rfl
      | true => exact absurd (hbi.mp rfl) (noPlan_not hb h1 o)
    rw [this]
    rfl
  · rw [h2]
    have hbest := best_is hb h1
    obtain ⟨b', hbi', hbf'⟩ := planned_f hb (planL (theL sp st need) (an ages) untl ages.length p)
    have e : b' = true := hbi'.mpr hbest
    simp only [if_true]
    rw [if_pos (by rw [planL_len]; omega), hbf' _ (by omega), Option.bind_some, e, Bool.not_true, quinarialaw02_ChannelBetter.j1, if_neg (by simp)]
    exact better_l0 hb hbest (fun hh => hbi.mp hh) (fun hh => best_best hb h1 (hbi.mp hh)) ages.length 0 3000 (by omega) (by omega)
theorem ChannelBetter_pure (sp : List Int) (st : List ST) (ages : List Int) (need untl : Int) (o : List Int) : quinarialaw02_ChannelBetter.f (3000 + 1 + 1) sp st ages need untl o = some true := by
  have hk : quinarialaw02_ChannelBetter.j0 (3000 + 1 + 1) ages need untl o true sp st = some true := by
    rw [quinarialaw02_ChannelBetter.j0, if_pos rfl]
    rfl
  unfold quinarialaw02_ChannelBetter.f
  rw [short_f, Option.bind_some]
  cases hs : shortB sp st with
  | false => rw [if_neg (by simp)]; exact hk
  | true =>
    have hl := short_lens hs
    rw [if_pos rfl]
    by_cases h10 : (ages.length : Int) > 10
    · rw [if_pos h10]; exact hk
    rw [if_neg h10]
    by_cases h11 : (o.length : Int) > 10
    · rw [if_pos h11]; exact hk
    rw [if_neg h11, right_f (by omega) (by omega) _ (by omega), Option.bind_some]
    cases h1 : isLineB sp st with
    | false => rw [if_neg (by simp)]; exact hk
    | true =>
    rw [if_pos rfl, ages_f ages (by omega) (by omega) _ (by omega), Option.bind_some]
    cases h2 : areAgesB st.length ages with
    | false => rw [if_neg (by simp)]; exact hk
    | true =>
    rw [if_pos rfl, needR_f, Option.bind_some]
    cases h3 : inB need 1 10000000 with
    | false => rw [if_neg (by simp)]; exact hk
    | true =>
    rw [if_pos rfl, untilR_f, Option.bind_some]
    cases h4 : inB untl 0 40 with
    | false => exact hk
    | true => exact better_go (by simp [planB, h1, h2, h3, h4]) o
theorem ChannelBetter_law (A0 A1 : Option Addr) (c0 c1 : Nat) (sp : List Int) (st : List ST) (A3 : Option Addr) (c3 : Nat) (ages : List Int) (need untl : Int) (A6 : Option Addr) (c6 : Nat) (o : List Int) (w : World) (hT : TabW w) (h0 : At' (Kd.int .i64) w A0 sp.length c0 sp) (h1 : At' k32 w A1 st.length c1 st) (h3 : At' (Kd.int .i64) w A3 ages.length c3 ages) (h6 : At' (Kd.int .i64) w A6 o.length c6 o) :
    Calls Tryz.prog 10 #[.agg #[.slice A0 sp.length c0, .slice A1 st.length c1], .slice A3 ages.length c3, .int .i64 need, .int .i64 untl, .slice A6 o.length c6] w fun e w' => e = .returned (.bool true) ∧ Below w.heap.size w w' :=
  quinarialaw02_ChannelBetter.calls _ A0 c0 sp A1 c1 st A3 c3 ages need untl A6 c6 o true w h0.c h0.le h1.c h1.le h3.c h3.le h6.c h6.le hT (ChannelBetter_pure sp st ages need untl o)
end Go.Proofs.YtdmdahafiiggiaaGreatDoor.K
end
