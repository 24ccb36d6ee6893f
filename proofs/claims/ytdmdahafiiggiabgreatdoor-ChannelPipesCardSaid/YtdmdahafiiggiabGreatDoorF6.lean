/- The walks of the functions that the laws of this seat call, and what they compute; joined out of smaller texts, part 6. -/
import Derived.Test.YtdmdahafiiggiabGreatDoorF5
set_option linter.unusedVariables false
set_option linter.unusedSimpArgs false
section
namespace Go.Proofs.YtdmdahafiiggiabGreatDoor.K
open Go.RowKit Go.Proofs.YtdmdahafiiggiabGreatDoorW.PrintWords Go.Proofs.YtdmdahafiiggiabGreatDoorW.PrintLast Go.Proofs.YtdmdahafiiggiabGreatDoorW.PrintMore
variable {a b : Int} {pts : List SPA} {lens : List Int} {cl : List CLA} {ch : List Int}
namespace Pl
def before : List Int → List Int → Bool
  | a :: l, b :: m => if a = b then before l m else decide (a < b)
  | [], _ :: _ => true
  | _, [] => false
end Pl
namespace Pl
theorem pairwise_flatMap {α β : Type} {R : β → β → Prop} {f : α → List β} {S : α → α → Prop} : ∀ {l : List α}, l.Pairwise S → (∀ a ∈ l, (f a).Pairwise R) → (∀ a b, S a b → ∀ x ∈ f a, ∀ y ∈ f b, R x y) → (l.flatMap f).Pairwise R
  | [], _, _, _ => List.Pairwise.nil
  | a :: l, hs, h1, h2 => by
    rw [List.flatMap_cons, List.pairwise_append]
    rw [List.pairwise_cons] at hs
    refine ⟨h1 a List.mem_cons_self, pairwise_flatMap hs.2 (fun b hb => h1 b (List.mem_cons_of_mem _ hb)) h2, ?_⟩
    intro x hx y hy
    obtain ⟨b, hb, hy⟩ := List.mem_flatMap.1 hy
    exact h2 a b (hs.1 b hb) x hx y hy
theorem before_asymm : ∀ {a b : List Int}, before a b = true → before b a = false
  | [], [], h => by simp [before] at h
  | [], _ :: _, _ => rfl
  | _ :: _, [], h => by simp [before] at h
  | a :: l, b :: m, h => by
    simp only [before] at h ⊢
    by_cases e : a = b
    · subst e; rw [if_pos rfl] at h ⊢; exact before_asymm h
    · rw [if_neg e] at h; rw [if_neg (Ne.symm e)]; simp at h ⊢; omega
theorem before_irrefl : ∀ a : List Int, before a a = false
  | [] => rfl
  | a :: l => by simp [before, before_irrefl l]
end Pl
theorem foldQ_mem : ∀ {l : List (List Int × Int)} {o : Option (List Int × Int)} {y : List Int × Int}, l.foldl stepP o = some y → o = some y ∨ y ∈ l
  | [], o, y, h => .inl h
  | x :: l, o, y, h => by
    rw [List.foldl_cons] at h
    rcases foldQ_mem h with h1 | h1
    · unfold stepP at h1
      split at h1
      · obtain rfl := Option.some.inj h1; exact .inr (List.mem_cons_self ..)
      · split at h1
        · obtain rfl := Option.some.inj h1; exact .inr (List.mem_cons_self ..)
        · exact .inl h1
    · exact .inr (List.mem_cons_of_mem _ h1)
theorem bestQ_mem {l : List (List Int × Int)} {y : List Int × Int} (h : bestP l = some y) : y ∈ l := by
  rcases foldQ_mem h with h1 | h1
  · cases h1
  · exact h1
theorem chosenQ_tails {m : Nat} {z : List Int} (hm : m = lens.length) (h : z ∈ tails cl.length m) : chosenB lens cl z = true := by
  obtain ⟨h1, h2⟩ := (mem_tails cl.length m z).mp h
  unfold chosenB
  rw [Bool.and_eq_true, List.all_eq_true, beq_iff_eq]
  refine ⟨fun c hc => ?_, by omega⟩
  have := h2 c hc
  simp only [inB, Bool.and_eq_true, decide_eq_true_eq]
  omega
theorem pipesQ_f (h1 : pts.length ≤ 1000000) (h2 : lens.length ≤ 1000000) (h3 : cl.length ≤ 1000000) : channel_Pipes.f a b pts lens cl = some (pipesF a b pts lens cl) := by
  unfold channel_Pipes.f
  rw [if_pos ⟨by omega, by omega, by omega⟩]
theorem getD_at {l : List Int} {j : Nat} (h : j < l.length) : l.getD j 0 = l[j] := by rw [List.getD, List.getElem?_eq_getElem h]; rfl
theorem before_from (a b : List Int) (hl : a.length = b.length) (hl2 : a.length ≤ 1000) : ∀ (d j K : Nat), j + d = a.length → 2 * d + 2 < K → quinariaref02_Before.l0 K a b (j : Int) = some (Pl.before (a.drop j) (b.drop j)) := by
  intro d
  induction d with
  | zero =>
    intro j K hj hK
    obtain ⟨K, rfl⟩ : ∃ k, K = k + 1 + 1 := ⟨K - 2, by omega⟩
    rw [quinariaref02_Before.l0, if_neg (by omega), quinariaref02_Before.j1, if_neg (by simp), show List.drop j a = [] from List.drop_eq_nil_of_le (by omega), show List.drop j b = [] from List.drop_eq_nil_of_le (by omega), decide_eq_false (by omega)]
    rfl
  | succ d ih =>
    intro j K hj hK
    obtain ⟨K, rfl⟩ : ∃ k, K = k + 1 + 1 := ⟨K - 2, by omega⟩
    have hja : j < a.length := by omega
    have hjb : j < b.length := by omega
    have i0 : (0 : Int) ≤ (j : Int) := by omega
    have i1 : (j : Int) < (a.length : Int) := by omega
    have i2 : (j : Int) < (b.length : Int) := by omega
    have ih := ih (j + 1) K (by omega) (by omega)
    rw [quinariaref02_Before.l0, if_pos i1, decide_eq_true i2, quinariaref02_Before.j1, if_pos rfl, if_pos i0, if_pos i1, if_pos i2, rd_at, rd_at, getD_at hja, getD_at hjb, List.drop_eq_getElem_cons hja, List.drop_eq_getElem_cons hjb]
    unfold Pl.before
    by_cases e : a[j] = b[j]
    · rw [if_pos e, if_pos e, show wrap64 ((j : Int) + 1) = ((j + 1 : Nat) : Int) by rw [IntWalk.wrap64_in _ (by omega)]; omega]
      exact ih
    · rw [if_neg e, if_neg e]
theorem before_f (a b : List Int) (hl : a.length = b.length) (hl2 : a.length ≤ 100) (K : Nat) (hK : 300 < K) : quinariaref02_Before.f K a b = some (Pl.before a b) := by
  unfold quinariaref02_Before.f
  exact before_from a b hl (by omega) a.length 0 K (by omega) (by omega)
theorem priceR_from (h : SiOk a b pts lens) (hk : ClOk cl) (hx : ch.length = lens.length) (hc : ∀ k : Int, 0 ≤ k → k < ch.length → 0 ≤ rd ch k ∧ rd ch k < cl.length) : ∀ (d j K : Nat), j + d = ch.length → d < K → quinariaref02_Price.l0 K cl ch (priceN lens cl ch j) (j : Int) a b pts lens = some (priceN lens cl ch ch.length) := by
  intro d
  induction d with
  | zero =>
    intro j K hj hK
    obtain ⟨K, rfl⟩ : ∃ k, K = k + 1 := ⟨K - 1, by omega⟩
    rw [quinariaref02_Price.l0, if_neg (by omega), show j = ch.length by omega]
  | succ d ih =>
    intro j K hj hK
    obtain ⟨K, rfl⟩ : ∃ k, K = k + 1 := ⟨K - 1, by omega⟩
    have ih := ih (j + 1) K (by omega) (by omega)
    have hn1 := h.n1
    have hln := h.ln
    have c1 := hc (j : Int) (by omega) (by omega)
    have r1 := price_range h hk hx hc j (by omega)
    have r2 := price_range h hk hx hc (j + 1) (by omega)
    have l1 := h.le (j : Int) (by omega) (by omega)
    have l2 := hk.at_ _ c1.1 c1.2
    have m1 : 0 ≤ rd lens (j : Int) * (rd_T53 cl (rd ch (j : Int))).f1 := Int.mul_nonneg (by omega) (by omega)
    have m2 : rd lens (j : Int) * (rd_T53 cl (rd ch (j : Int))).f1 ≤ 100 * 100 := Int.mul_le_mul (by omega) (by omega) (by omega) (by omega)
    have e : wrap64 (priceN lens cl ch j + wrap64 (rd lens (j : Int) * (rd_T53 cl (rd ch (j : Int))).f1)) = priceN lens cl ch (j + 1) := by
      rw [IntWalk.wrap64_in (rd lens (j : Int) * _) (by omega), IntWalk.wrap64_in _ (by omega)]
      rfl
    rw [quinariaref02_Price.l0, if_pos (by omega), if_pos (by omega), if_pos (by omega), if_pos c1.1, if_pos c1.2, e, w1 (by omega) (by omega)]
    exact ih
theorem priceR_f (h : SiOk a b pts lens) (hk : ClOk cl) (hx : ch.length = lens.length) (hc : ∀ k : Int, 0 ≤ k → k < ch.length → 0 ≤ rd ch k ∧ rd ch k < cl.length) (K : Nat) (hK : 100 < K) : quinariaref02_Price.f K a b pts lens cl ch = some (priceN lens cl ch ch.length) := by
  have hn1 := h.n1
  have hln := h.ln
  exact priceR_from h hk hx hc ch.length 0 K (by omega) (by omega)
theorem usedR_from (h : SiOk a b pts lens) (hk : ClOk cl) (hx : ch.length = lens.length) {c : Nat} (hc : c < cl.length) : ∀ (d j K : Nat), j + d = ch.length → d + 1 < K → quinariaref02_Suffices.l1 K cl ch (c : Int) (usedN lens ch (c : Int) j) (j : Int) a b pts lens = (if usedN lens ch (c : Int) ch.length > (rd_T53 cl (c : Int)).f2 then some false else quinariaref02_Suffices.l0 (K - d - 1) cl ch ((c : Int) + 1) a b pts lens) := by
  intro d
  induction d with
  | zero =>
    intro j K hj hK
    obtain ⟨K, rfl⟩ : ∃ k, K = k + 1 := ⟨K - 1, by omega⟩
    have hk1 := hk.n1
    rw [quinariaref02_Suffices.l1, if_neg (by omega), if_pos (by omega), if_pos (by omega), w1 (by omega) (by omega), show j = ch.length by omega]
    rfl
  | succ d ih =>
    intro j K hj hK
    obtain ⟨K, rfl⟩ : ∃ k, K = k + 1 := ⟨K - 1, by omega⟩
    have ih := ih (j + 1) K (by omega) (by omega)
    have hn1 := h.n1
    have hln := h.ln
    have r1 := used_range h ch (c : Int) j (by omega)
    have l1 := h.le (j : Int) (by omega) (by omega)
    rw [show K + 1 - (d + 1) - 1 = K - d - 1 by omega, quinariaref02_Suffices.l1, if_pos (by omega), if_pos (by omega), w1 (by omega) (by omega)]
    rw [usedN] at ih
    by_cases e : rd ch (j : Int) = (c : Int)
    · rw [if_pos e] at ih
      rw [if_pos e, if_pos (by omega), IntWalk.wrap64_in _ (by omega)]
      exact ih
    · rw [if_neg e] at ih
      rw [if_neg e]
      exact ih
theorem suffR_from (h : SiOk a b pts lens) (hk : ClOk cl) (hx : ch.length = lens.length) (hc : ∀ k : Int, 0 ≤ k → k < ch.length → 0 ≤ rd ch k ∧ rd ch k < cl.length) : ∀ (d c K : Nat), c + d = cl.length → d * (ch.length + 2) + 100 < K → quinariaref02_Suffices.l0 K cl ch (c : Int) a b pts lens = some (((List.range' c d).all fun (d : Nat) => decide (usedN lens ch (d : Int) ch.length ≤ (rd_T53 cl (d : Int)).f2)) && (burstL a b pts cl ch lens.length).isEmpty) := by
  intro d
  induction d with
  | zero =>
    intro c K hj hK
    obtain ⟨K, rfl⟩ : ∃ k, K = k + 1 := ⟨K - 1, by omega⟩
    rw [quinariaref02_Suffices.l0, if_neg (by omega), burstsR_f h hx hc K (by omega), Option.bind_some]
    congr 1
    cases burstL a b pts cl ch lens.length with
    | nil => rfl
    | cons y l => simp; omega
  | succ d ih =>
    intro c K hj hK
    rw [Nat.succ_mul] at hK
    obtain ⟨K, rfl⟩ : ∃ k, K = k + 1 := ⟨K - 1, by omega⟩
    rw [quinariaref02_Suffices.l0, if_pos (by omega)]
    have hu := usedR_from h hk hx (c := c) (by omega) ch.length 0 K (by omega) (by omega)
    rw [show usedN lens ch (c : Int) 0 = 0 from rfl] at hu
    rw [show ((0 : Nat) : Int) = 0 from rfl] at hu
    rw [hu, List.range'_succ, List.all_cons]
    by_cases e : usedN lens ch (c : Int) ch.length > (rd_T53 cl (c : Int)).f2
    · rw [if_pos e, decide_eq_false (by omega)]
      rfl
    · have ih := ih (c + 1) (K - ch.length - 1) (by omega) (by omega)
      rw [show ((c + 1 : Nat) : Int) = (c : Int) + 1 by omega] at ih
      rw [if_neg e, decide_eq_true (by omega), Bool.true_and]
      exact ih
theorem suffR_f (h : SiOk a b pts lens) (hk : ClOk cl) (hx : ch.length = lens.length) (hc : ∀ k : Int, 0 ≤ k → k < ch.length → 0 ≤ rd ch k ∧ rd ch k < cl.length) (K : Nat) (hK : 290 < K) : quinariaref02_Suffices.f K a b pts lens cl ch = some (suffB a b pts lens cl ch) := by
  have hn1 := h.n1
  have hln := h.ln
  have hk1 := hk.n1
  have hm : cl.length * (ch.length + 2) ≤ 4 * 40 := Nat.mul_le_mul hk1 (by omega)
  have := suffR_from h hk hx hc cl.length 0 K (by omega) (by omega)
  unfold quinariaref02_Suffices.f suffB stockB
  rw [List.range_eq_range']
  exact this
theorem stepP_some (f : List Int → Int) : ∀ (l : List (List Int)) (y : List Int), ∃ z, (l.map fun x => (x, f x)).foldl stepP (some (y, f y)) = some (z, f z) ∧ (z = y ∧ (∀ x ∈ l, f y ≤ f x) ∨ ∃ pre suf, l = pre ++ z :: suf ∧ f z < f y ∧ (∀ x ∈ pre, f z < f x) ∧ ∀ x ∈ suf, f z ≤ f x)
  | [], y => ⟨y, rfl, .inl ⟨rfl, by simp⟩⟩
  | x :: l, y => by
    rw [List.map_cons, List.foldl_cons]
    by_cases h : f x < f y
    · obtain ⟨z, hz, hc⟩ := stepP_some f l x
      refine ⟨z, by rw [show stepP (some (y, f y)) (x, f x) = some (x, f x) by simp [stepP, h]]; exact hz, .inr ?_⟩
      rcases hc with ⟨rfl, hall⟩ | ⟨pre, suf, rfl, h1, h2, h3⟩
      · exact ⟨[], l, rfl, h, by simp, hall⟩
      · exact ⟨x :: pre, suf, rfl, by omega, fun a ha => by rcases List.mem_cons.1 ha with rfl | ha; exact h1; exact h2 a ha, h3⟩
    · obtain ⟨z, hz, hc⟩ := stepP_some f l y
      refine ⟨z, by rw [show stepP (some (y, f y)) (x, f x) = some (y, f y) by simp [stepP, h]]; exact hz, ?_⟩
      rcases hc with ⟨rfl, hall⟩ | ⟨pre, suf, rfl, h1, h2, h3⟩
      · exact .inl ⟨rfl, fun a ha => by rcases List.mem_cons.1 ha with rfl | ha; omega; exact hall a ha⟩
      · exact .inr ⟨x :: pre, suf, rfl, h1, fun a ha => by rcases List.mem_cons.1 ha with rfl | ha; omega; exact h2 a ha, h3⟩
theorem bestP_none (f : List Int → Int) {l : List (List Int)} (h : bestP (l.map fun x => (x, f x)) = none) : l = [] := by
  cases l with
  | nil => rfl
  | cons y l =>
    obtain ⟨z, hz, -⟩ := stepP_some f l y
    unfold bestP at h
    rw [List.map_cons, List.foldl_cons, show stepP none (y, f y) = some (y, f y) from rfl, hz] at h
    cases h
theorem bestP_first (f : List Int → Int) {l : List (List Int)} {p : List Int × Int} (hs : l.Pairwise fun x y => Pl.before x y = true) (h : bestP (l.map fun x => (x, f x)) = some p) : p.1 ∈ l ∧ p.2 = f p.1 ∧ ∀ o ∈ l, f p.1 < f o ∨ f p.1 = f o ∧ Pl.before o p.1 = false := by
  have key : ∃ z pre suf, p = (z, f z) ∧ l = pre ++ z :: suf ∧ (∀ x ∈ pre, f z < f x) ∧ ∀ x ∈ suf, f z ≤ f x := by
    cases l with
    | nil => cases h
    | cons y l =>
      obtain ⟨z, hz, hc⟩ := stepP_some f l y
      unfold bestP at h
      rw [List.map_cons, List.foldl_cons, show stepP none (y, f y) = some (y, f y) from rfl, hz] at h
      have h := (Option.some.inj h).symm
      rcases hc with ⟨rfl, hall⟩ | ⟨pre, suf, rfl, h1, h2, h3⟩
      · exact ⟨z, [], l, h, rfl, by simp, hall⟩
      · exact ⟨z, y :: pre, suf, h, rfl, fun a ha => by rcases List.mem_cons.1 ha with rfl | ha; exact h1; exact h2 a ha, h3⟩
  obtain ⟨z, pre, suf, rfl, rfl, h1, h2⟩ := key
  rw [List.pairwise_append] at hs
  refine ⟨by simp, rfl, fun o ho => ?_⟩
  rcases List.mem_append.1 ho with ho | ho
  · exact .inl (h1 o ho)
  · rcases List.mem_cons.1 ho with rfl | ho
    · exact .inr ⟨rfl, Pl.before_irrefl _⟩
    · have h3 := h2 o ho
      have h5 := Pl.before_asymm ((List.pairwise_cons.1 hs.2.1).1 o ho)
      by_cases e : f z = f o
      · exact .inr ⟨e, h5⟩
      · exact .inl (by show f z < f o; omega)
theorem tails_chosen {z : List Int} (h : chosenB lens cl z = true) : z ∈ tails cl.length lens.length := by
  refine (mem_tails _ _ _).mpr ?_
  unfold chosenB at h
  rw [Bool.and_eq_true, List.all_eq_true, beq_iff_eq] at h
  refine ⟨h.2, fun x hx => ?_⟩
  have := h.1 x hx
  simp only [inB, Bool.and_eq_true, decide_eq_true_eq] at this
  omega
theorem tailsK_sorted (c : Nat) : ∀ m : Nat, (tails c m).Pairwise fun x y => Pl.before x y = true
  | 0 => by simp [tails]
  | m + 1 => by
    refine Pl.pairwise_flatMap (S := (· < ·)) (List.pairwise_lt_range) ?_ ?_
    · intro d _
      rw [List.pairwise_map]
      refine (tailsK_sorted c m).imp ?_
      intro x y h
      simp [Pl.before, h]
    · intro a b hab x hx y hy
      obtain ⟨r, _, rfl⟩ := List.mem_map.1 hx
      obtain ⟨s, _, rfl⟩ := List.mem_map.1 hy
      simp only [Pl.before]
      rw [if_neg (by omega)]; simp; omega
end Go.Proofs.YtdmdahafiiggiabGreatDoor.K
end
