/- What the texts behind it build on; conditions: none. -/
import Derived.Test.YtdbgfejeleafgaaPp9
import Derived.Test.YtdbgfejeleafgaaRows
import Derived.ProofKit
import Derived.OpenShut
import Derived.Lib.SmallJoins
import Derived.Deep.Slices
import Derived.Deep.Fields
namespace Go.Proofs.Ytdbgfejeleafgaa
open Go.RowKit
set_option linter.unusedVariables false
set_option linter.unusedSimpArgs false
def bitsTo (q : Int → Bool) (l : List Int) : Nat → Nat
  | 0 => 0
  | i + 1 => bitsTo q l i + (if q (l.getD i 0) = true then 2 ^ i else 0)
theorem bitsTo_lt (q : Int → Bool) (l : List Int) : ∀ i, bitsTo q l i < 2 ^ i
  | 0 => by simp [bitsTo]
  | i + 1 => by
    have := bitsTo_lt q l i
    unfold bitsTo; rw [Nat.pow_succ]
    split <;> omega
theorem bit_skip (a c : Nat) {i j : Nat} (h : j < i) : (a + 2 ^ i * c) / 2 ^ j % 2 = a / 2 ^ j % 2 := by
  obtain ⟨d, rfl⟩ : ∃ d, i = j + (d + 1) := ⟨i - j - 1, by omega⟩
  have e : a + 2 ^ (j + (d + 1)) * c = a + 2 ^ j * (2 * (2 ^ d * c)) := by
    rw [Nat.pow_add, Nat.pow_succ]; congr 1; ac_rfl
  rw [e, Nat.add_mul_div_left _ _ (Nat.pow_pos (by omega))]; omega
theorem bitsTo_bit (q : Int → Bool) (l : List Int) : ∀ i j, j < i → (bitsTo q l i / 2 ^ j % 2 = 1 ↔ q (l.getD j 0) = true)
  | 0, j, h => absurd h (by omega)
  | i + 1, j, h => by
    have ih := bitsTo_bit q l i j
    have hlt := bitsTo_lt q l i
    unfold bitsTo
    by_cases e : j = i
    · subst e
      by_cases hq : q (l.getD j 0) = true
      · rw [if_pos hq, Nat.add_div_right _ (Nat.pow_pos (by omega)), Nat.div_eq_of_lt hlt]
        exact ⟨fun _ => hq, fun _ => rfl⟩
      · rw [if_neg hq, Nat.add_zero, Nat.div_eq_of_lt hlt]
        exact ⟨fun h9 => by simp at h9, fun h9 => absurd h9 hq⟩
    · split
      · rw [show 2 ^ i = 2 ^ i * 1 by omega, bit_skip _ _ (by omega)]; exact ih (by omega)
      · rw [Nat.add_zero]; exact ih (by omega)
theorem choice_bits (q : Int → Bool) (l : List Int) (n : Nat) : ∀ i, i ≤ n → i ≤ l.length → choiceTo l (bitsTo q l n) i = (l.take i).filter q
  | 0, _, _ => by simp [choiceTo]
  | i + 1, hn, hi => by
    have ih := choice_bits q l n i (by omega) (by omega)
    have hx : l[i]? = some l[i] := List.getElem?_eq_getElem (by omega)
    have hb := bitsTo_bit q l n i (by omega)
    have hg : l.getD i 0 = l[i] := by rw [List.getD_eq_getElem?_getD, hx]; rfl
    rw [hg] at hb
    rw [List.take_add_one, hx, List.filter_append]
    by_cases hq : q l[i] = true
    · rw [choiceTo_yes hx (hb.2 hq), ih]; simp [hq]
    · rw [choiceTo_no (fun h9 => hq (hb.1 h9)), ih]; simp [hq]
theorem choice_of {l pl : List Int} (hl : sorted l) (hp : sorted pl) (h : ∀ z, z ∈ pl → z ∈ l) : ∃ t, t < 2 ^ l.length ∧ choice l t = pl := by
  refine ⟨bitsTo (fun z => pl.contains z) l l.length, bitsTo_lt _ _ _, ?_⟩
  unfold choice
  rw [choice_bits _ l l.length l.length (Nat.le_refl _) (Nat.le_refl _), List.take_length]
  refine sorted_ext _ _ (sorted_filter _ hl) hp (fun z => ?_)
  rw [List.mem_filter, List.contains_iff_mem]
  exact ⟨fun h9 => h9.2, fun h9 => ⟨h z h9, h9⟩⟩
theorem choiceTo_sub (l : List Int) (t : Nat) : ∀ i, i ≤ l.length → (choiceTo l t i).Sublist (l.take i)
  | 0, _ => by simp [choiceTo]
  | i + 1, hi => by
    have ih := choiceTo_sub l t i (by omega)
    have hx : l[i]? = some l[i] := List.getElem?_eq_getElem (by omega)
    rw [List.take_add_one, hx]
    by_cases h : t / 2 ^ i % 2 = 1
    · rw [choiceTo_yes hx h]; exact ih.append (List.Sublist.refl _)
    · rw [choiceTo_no h]; exact ih.trans (List.sublist_append_left _ _)
theorem choice_sorted {l : List Int} (hl : sorted l) (t : Nat) : sorted (choice l t) := by
  have := choiceTo_sub l t l.length (Nat.le_refl _)
  rw [List.take_length] at this
  exact hl.sublist this
def keyLe (h : List Int → Int) (b : List Int × Int) (x : List Int) : Prop := b.2 < h x ∨ (b.2 = h x ∧ b.1.length ≤ x.length)
theorem better_no {h : List Int → Int} {x : List Int} {b : List Int × Int} (hb : better h x b = false) : keyLe h b x := by
  unfold better at hb
  rw [Bool.or_eq_false_iff, decide_eq_false_iff_not] at hb
  obtain ⟨h1, h2⟩ := hb
  by_cases e : h x = b.2
  · rw [decide_eq_true e, Bool.true_and] at h2
    refine .inr ⟨e.symm, ?_⟩
    unfold lessL at h2
    split at h2
    · omega
    · have := of_decide_eq_false h2; omega
  · exact .inl (by omega)
theorem better_key {h : List Int → Int} {x : List Int} {b : List Int × Int} (hb : better h x b = true) : h x < b.2 ∨ (h x = b.2 ∧ x.length ≤ b.1.length) := by
  unfold better at hb
  rw [Bool.or_eq_true, decide_eq_true_iff] at hb
  rcases hb with h1 | h1
  · exact .inl h1
  · rw [Bool.and_eq_true, decide_eq_true_iff] at h1
    refine .inr ⟨h1.1, ?_⟩
    have h2 := h1.2
    unfold lessL at h2
    split at h2
    · omega
    · have := of_decide_eq_true h2; omega
theorem keyLe_trans {h : List Int → Int} {x y : List Int} {b : List Int × Int} (h1 : h x < b.2 ∨ (h x = b.2 ∧ x.length ≤ b.1.length)) (h2 : keyLe h b y) : keyLe h (x, h x) y := by
  unfold keyLe at h2 ⊢
  dsimp only
  omega
theorem bestTo_min {P : List Int → Bool} {h : List Int → Int} {l : List Int} : ∀ {s : Nat} {b : List Int × Int}, bestTo P h l s = some b → ∀ t, t < s → P (choice l t) = true → keyLe h b (choice l t)
  | 0, _, e, _, ht, _ => absurd ht (by omega)
  | s + 1, b, e, t, ht, hP => by
    cases hr : bestTo P h l s with
    | none =>
      by_cases hs : P (choice l s) = true
      · rw [bestTo_next hr, bestStep_first hs] at e
        cases e
        by_cases e2 : t = s
        · subst e2; exact .inr ⟨rfl, Nat.le_refl _⟩
        · exact absurd hr (bestTo_some (t := t) (by omega) hP)
      · rw [bestTo_next hr, bestStep_no (by simpa using hs)] at e; cases e
    | some c =>
      have ih := bestTo_min hr
      by_cases hs : P (choice l s) = true
      · by_cases hb : better h (choice l s) c = true
        · rw [bestTo_next hr, bestStep_yes hs hb] at e
          cases e
          by_cases e2 : t = s
          · subst e2; exact .inr ⟨rfl, Nat.le_refl _⟩
          · exact keyLe_trans (better_key hb) (ih t (by omega) hP)
        · rw [bestTo_next hr, bestStep_keep (by simpa using hb)] at e
          cases e
          by_cases e2 : t = s
          · subst e2; exact better_no (by simpa using hb)
          · exact ih t (by omega) hP
      · rw [bestTo_next hr, bestStep_no (by simpa using hs)] at e
        cases e
        by_cases e2 : t = s
        · subst e2; exact absurd hP hs
        · exact ih t (by omega) hP
where
  bestTo_some {P : List Int → Bool} {h : List Int → Int} {l : List Int} {t s : Nat} (ht : t < s) (hP : P (choice l t) = true) : bestTo P h l s ≠ none := by
    have h1 : bestTo P h l (t + 1) ≠ none := by
      cases hr : bestTo P h l t with
      | none => rw [bestTo_next hr, bestStep_first hP]; simp
      | some c => rw [bestTo_next hr]; unfold bestStep; rw [if_pos hP]; simp only []; split <;> simp
    have := bestTo_mono h1 (s - (t + 1))
    rwa [show t + 1 + (s - (t + 1)) = s by omega] at this
theorem openIds_sorted {m : Int} {ps : List Pp} {vs : List Vv} (h : GoodVal m ps vs) : sorted (openIds vs) := by
  have h1 : vs.Pairwise (fun u v => u.id < v.id) := by
    rw [List.pairwise_iff_getElem]
    intro i j hi hj hij
    exact vids_rise h (j - i - 1) i _ _ (List.getElem?_eq_getElem hi) (by rw [show i + (j - i - 1) + 1 = j by omega]; exact List.getElem?_eq_getElem hj)
  unfold openIds sorted
  rw [List.pairwise_map]
  exact h1.sublist List.filter_sublist
theorem rise_of {lo hi : Int} {zs : List Int} (hs : sorted zs) (hb : ∀ z, z ∈ zs → lo ≤ z ∧ z ≤ hi) : riseL lo hi zs = true := by
  have hat : ∀ k, k < zs.length → okI lo hi zs k = true := by
    intro k hk
    have hz : zs[k]? = some zs[k] := List.getElem?_eq_getElem hk
    have hin := hb _ (List.getElem_mem hk)
    cases k with
    | zero => rw [okI_zero hz]; exact inB_iff.2 hin
    | succ k =>
      have hy : zs[k]? = some zs[k] := List.getElem?_eq_getElem (by omega)
      rw [okI_next hz hy, inB_iff.2 hin]
      exact decide_eq_true (List.pairwise_iff_getElem.1 hs k (k + 1) (by omega) hk (by omega))
  have : ∀ n, n ≤ zs.length → riseTo lo hi zs n = true := by
    intro n
    induction n with
    | zero => intro _; rfl
    | succ n ih => intro hn; unfold riseTo; rw [ih (by omega), hat n (by omega)]; rfl
  exact this _ (Nat.le_refl _)
theorem rise_sorted {lo hi : Int} {zs : List Int} (h : riseL lo hi zs = true) : sorted zs := by
  have next : ∀ k (hk : k + 1 < zs.length), zs[k] < zs[k + 1] := by
    intro k hk
    have := riseTo_at h hk
    rw [okI_next (List.getElem?_eq_getElem hk) (List.getElem?_eq_getElem (by omega : k < zs.length)), Bool.and_eq_true, decide_eq_true_eq] at this
    exact this.2
  have far : ∀ d k (hk : k + d + 1 < zs.length), zs[k]'(by omega) < zs[k + d + 1] := by
    intro d
    induction d with
    | zero => intro k hk; exact next k hk
    | succ d ih =>
      intro k hk
      have h1 := ih k (by omega)
      have h2 := next (k + d + 1) (by omega)
      exact Int.lt_trans h1 h2
  unfold sorted
  rw [List.pairwise_iff_getElem]
  intro i j hi hj hij
  obtain ⟨d, rfl⟩ : ∃ d, j = i + d + 1 := ⟨j - i - 1, by omega⟩
  exact far d i hj
theorem plan_choice {m : Int} {ps : List Pp} {vs : List Vv} {s id : Int} {pl : List Int} (h : IsPlan_v0 m ps vs s id pl = true) : ∃ t, t < 2 ^ (openIds vs).length ∧ choice (openIds vs) t = pl ∧ cutB ps vs s id (choice (openIds vs) t) = true := by
  obtain ⟨h1, h2, h3, h4⟩ := IsPlan_of h
  obtain ⟨t, ht, e⟩ := choice_of (openIds_sorted (canB_of h1).1) (rise_sorted h2) (fun z hz => by
    unfold planAll at h3
    rw [List.all_eq_true] at h3
    exact List.contains_iff_mem.1 (h3 z hz))
  exact ⟨t, ht, e, by rw [e]; exact h4⟩
theorem best_plan {m : Int} {ps : List Pp} {vs : List Vv} {s id : Int} {cs : List Int} {b : List Int × Int} (hc : canB m ps vs s id = true) (e : bestR ps vs s id cs = some b) : IsPlan_v0 m ps vs s id b.1 = true ∧ b.2 = harmL ps vs s cs b.1 := by
  have hV := (canB_of hc).1
  obtain ⟨t, h1, h2, h3⟩ := bestOf_in e
  refine ⟨?_, h3⟩
  have hmem : ∀ z, z ∈ b.1 → z ∈ openIds vs := fun z hz => by rw [h1] at hz; exact choice_mem hz
  have hr : riseL 1 99 b.1 = true := rise_of (by rw [h1]; exact choice_sorted (openIds_sorted hV) t) (fun z hz => by
    obtain ⟨v, hv, _, ev⟩ := mem_openIds.1 (hmem z hz)
    have := hV.ids v hv; omega)
  have hp : planAll vs b.1 = true := by
    unfold planAll; rw [List.all_eq_true]
    exact fun z hz => List.contains_iff_mem.2 (hmem z hz)
  unfold IsPlan_v0
  rw [hc, hr, hp, h2]; rfl
theorem best_min {m : Int} {ps : List Pp} {vs : List Vv} {s id : Int} {cs : List Int} {b : List Int × Int} {pl : List Int} (e : bestR ps vs s id cs = some b) (h : IsPlan_v0 m ps vs s id pl = true) : keyLe (harmL ps vs s cs) b pl := by
  obtain ⟨t, ht, e1, h1⟩ := plan_choice h
  have := bestTo_min e t ht h1
  rw [e1] at this; exact this
theorem harm_none (ps : List Pp) (vs : List Vv) (s : Int) (pl : List Int) : harmL ps vs s [] pl = 0 := rfl
theorem short_parts {m : Int} {ps : List Pp} {vs : List Vv} {s id : Int} (h : ShortestPlan_v1 m ps vs s id = true) : canB m ps vs s id = true ∧ ∃ b, bestR ps vs s id [] = some b ∧ ShortestPlan_v0 m ps vs s id = b.1 := by
  have h0 := h
  unfold ShortestPlan_v1 at h
  rw [Bool.and_eq_true] at h
  obtain ⟨b, hb⟩ := Option.isSome_iff_exists.1 h.2
  refine ⟨h.1, b, hb, ?_⟩
  unfold ShortestPlan_v0
  rw [if_pos h0, hb]; rfl
theorem short_is {m : Int} {ps : List Pp} {vs : List Vv} {s id : Int} (h : ShortestPlan_v1 m ps vs s id = true) : IsPlan_v0 m ps vs s id (ShortestPlan_v0 m ps vs s id) = true := by
  obtain ⟨hc, b, hb, e⟩ := short_parts h
  rw [e]; exact (best_plan hc hb).1
theorem short_le {m : Int} {ps : List Pp} {vs : List Vv} {s id : Int} {pl : List Int} (h : ShortestPlan_v1 m ps vs s id = true) (hp : IsPlan_v0 m ps vs s id pl = true) : (ShortestPlan_v0 m ps vs s id).length ≤ pl.length := by
  obtain ⟨hc, b, hb, e⟩ := short_parts h
  have h0 := (best_plan hc hb).2
  rw [harm_none] at h0
  have := best_min hb hp
  unfold keyLe at this
  rw [harm_none] at this
  rw [e]; omega
theorem short_less {m : Int} {ps : List Pp} {vs : List Vv} {s id : Int} (h : ShortestPlan_v1 m ps vs s id = true) {i : Nat} (hi : i < (ShortestPlan_v0 m ps vs s id).length) :
    IsPlan_v0 m ps vs s id ((ShortestPlan_v0 m ps vs s id).take i ++ (ShortestPlan_v0 m ps vs s id).drop (i + 1)) = false := by
  rw [← Bool.not_eq_true]
  intro hp
  have := short_le h hp
  rw [List.length_append, List.length_take, List.length_drop] at this
  omega
theorem upTo_sorted (n : Nat) : sorted (upTo n) := sorted_map_range _ (fun i j h => by omega) n
theorem segPlan_is {m : Int} {ps : List Pp} {vs : List Vv} {s id : Int} (h : SegmentPlan_v1 m ps vs s id = true) : IsPlan_v0 m ps vs s id (segPlan ps vs id) = true := by
  unfold SegmentPlan_v1 at h
  rw [Bool.and_eq_true] at h
  obtain ⟨hc, hcut⟩ := h
  have hV := (canB_of hc).1
  have hidx : ∀ i, i ∈ (aroundI ps vs (9 + findL ps id) vs.length).filter (fun i => match vs[i.toNat]? with | some v => !v.shut | none => false) → ∃ v, vs[i.toNat]? = some v ∧ v.shut = false ∧ 0 ≤ i := by
    intro i hi
    obtain ⟨h1, h2⟩ := List.mem_filter.1 hi
    have h3 := aroundI_in h1
    cases hv : vs[i.toNat]? with
    | none => rw [hv] at h2; cases h2
    | some v => rw [hv] at h2; exact ⟨v, rfl, by simpa using h2, h3.1⟩
  have hsub : sorted ((aroundI ps vs (9 + findL ps id) vs.length).filter (fun i => match vs[i.toNat]? with | some v => !v.shut | none => false)) := by
    refine sorted_filter _ ?_
    unfold aroundI; exact sorted_filter _ (upTo_sorted _)
  have hmem : ∀ z, z ∈ segPlan ps vs id → z ∈ openIds vs := by
    intro z hz
    unfold segPlan segIds idsV at hz
    obtain ⟨i, hi, e⟩ := List.mem_map.1 hz
    obtain ⟨v, hv, hs, _⟩ := hidx i hi
    rw [hv] at e
    exact mem_openIds.2 ⟨v, List.mem_of_getElem? hv, hs, e⟩
  have hsort : sorted (segPlan ps vs id) := by
    unfold segPlan segIds idsV sorted
    rw [List.pairwise_map]
    refine List.Pairwise.imp_of_mem ?_ hsub
    intro i j hi hj hij
    obtain ⟨u, hu, _, hi0⟩ := hidx i hi
    obtain ⟨v, hv, _, hj0⟩ := hidx j hj
    rw [hu, hv]
    exact vids_rise hV (j.toNat - i.toNat - 1) i.toNat u v hu (by rw [show i.toNat + (j.toNat - i.toNat - 1) + 1 = j.toNat by omega]; exact hv)
  have hr : riseL 1 99 (segPlan ps vs id) = true := rise_of hsort (fun z hz => by
    obtain ⟨v, hv, _, ev⟩ := mem_openIds.1 (hmem z hz)
    have := hV.ids v hv; omega)
  have hp : planAll vs (segPlan ps vs id) = true := by
    unfold planAll; rw [List.all_eq_true]
    exact fun z hz => List.contains_iff_mem.2 (hmem z hz)
  unfold IsPlan_v0
  rw [hc, hr, hp, hcut]; rfl
theorem seg_long {m : Int} {ps : List Pp} {vs : List Vv} {s id : Int} (h : ShortestPlan_v1 m ps vs s id = true) (hs : SegmentPlan_v1 m ps vs s id = true) : (ShortestPlan_v0 m ps vs s id).length ≤ (SegmentPlan_v0 m ps vs s id).length := by
  have e : SegmentPlan_v0 m ps vs s id = segPlan ps vs id := if_pos hs
  rw [e]; exact short_le h (segPlan_is hs)
theorem hope_iff {m : Int} {ps : List Pp} {vs : List Vv} {s : Int} {p : Pp} (h : HopelessPipes_v1 m ps vs s = true) (hp : p ∈ ps) : (HopelessPipes_v0 m ps vs s).contains p.id = !ShortestPlan_v1 m ps vs s p.id := by
  have e : HopelessPipes_v0 m ps vs s = hopeL ps vs s ps := if_pos h
  have hc : canB m ps vs s p.id = true := by
    unfold canB
    rw [show (goodV m ps vs && inB s 1 m) = true from h, decide_eq_true (findL_pos hp)]; rfl
  have h1 : (bestR ps vs s p.id []).isSome = cutB ps vs s p.id (openIds vs) := by
    rw [Bool.eq_iff_iff]
    constructor
    · intro h2
      obtain ⟨b, hb⟩ := Option.isSome_iff_exists.1 h2
      obtain ⟨t, h3, h4, _⟩ := bestOf_in hb
      exact cut_open h4
    · intro h2
      have h3 : bestR ps vs s p.id [] ≠ none := bestOf_some (t := 2 ^ (openIds vs).length - 1) (by have := Nat.pow_pos (n := (openIds vs).length) (show 0 < 2 by omega); omega) (by rw [choice_all]; exact h2)
      exact Option.isSome_iff_ne_none.2 h3
  have h2 : ShortestPlan_v1 m ps vs s p.id = cutB ps vs s p.id (openIds vs) := by unfold ShortestPlan_v1; rw [hc, h1]; rfl
  rw [h2, e, Bool.eq_iff_iff, List.contains_iff_mem, Bool.not_eq_true']
  unfold hopeL
  rw [List.mem_map]
  constructor
  · rintro ⟨q, hq, eq⟩
    obtain ⟨_, h3⟩ := List.mem_filter.1 hq
    rw [eq] at h3; simpa using h3
  · intro h3
    exact ⟨p, List.mem_filter.2 ⟨hp, by rw [h3]; rfl⟩, rfl⟩
end Go.Proofs.Ytdbgfejeleafgaa
namespace Go.Proofs.Ytdbgfejeleafgaa
open Go.RowKit
set_option linter.unusedVariables false
set_option linter.unusedSimpArgs false
set_option maxRecDepth 100000 in
set_option maxHeartbeats 8000000 in
theorem IsPlan_impl (m : Int) (A : Option Addr) (n c : Nat) (ps : List Pp) (A2 : Option Addr) (n2 c2 : Nat) (vs : List Vv) (s id : Int) (A3 : Option Addr) (n3 c3 : Nat) (pl : List Int) (w : World) (ha : Rd w 4 A n (pipesV ps)) (hb : Rd w 4 A2 n2 (valvesV vs)) (hp3 : Rd w 1 A3 n3 (intsV pl)) (hn : n ≤ 1048576) (hn2 : n2 ≤ 1048576) (hn3 : n3 ≤ 1048576) (hfm : Fm A n c) (hfm2 : Fm A2 n2 c2) (hfp : Fm A3 n3 c3) :
    Calls Try.prog 49 #[.agg #[.int .i64 m, .slice A n c], .slice A2 n2 c2, .int .i64 s, .int .i64 id, .slice A3 n3 c3] w fun e w' => e = .returned (.bool (IsPlan_v0 m ps vs s id pl)) ∧ Below w.heap.size w w' := by
 have hl := rd_pipes_len ha
 have hl2 := rd_valves_len hb
 have hl3 := rd_ints_len hp3
 go_enter Try.func49, Try.ntmps49
 refine F.begin 50 [(0, .agg #[.int .i64 m, .slice A n c]), (1, .slice A2 n2 c2), (2, .int .i64 s), (3, .int .i64 id), (4, .slice A3 n3 c3)] (fun U0 => ?_)
 refine wk fun K1 h1 => ?_
 refine W.region_plain (row := none) [(0, true), (1, false)] kk ?_
 have s1 := SG.self w none
 refine W.sn (fun b => .pointer (some ⟨b, 0, none⟩)) #[.int .i64 m, .slice A n c] 26 s1 rfl kk rfl (fun _ => by kernel_rfl) (fun b2 w3 hb4 k5 x6 s7 => ?_)
 apply F.nx
 have lo8 : w.heap.size ≤ b2 := Nl ((Sb (Below.refl _ _) s1 nkk)).size (Nat.le_of_eq hb4)
 refine Fa (.bool false) ?_
 apply F.es
 have c9 := (Sb (Below.refl _ _) s7 nkk)
 apply h1
 refine wk fun K2 h2 => ?_
 refine wk fun K3 h3 => ?_
 refine W.region_plain (row := none) [(0, false), (1, false), (2, false), (3, false), (4, true), (5, false), (6, false), (7, false), (8, true), (9, false), (10, false)] kk ?_
 have s10 := SG.self w3 none
 refine Fq (.agg #[.int .i64 m, .slice A n c]) (r_load2 rfl ek kk kk (sgS (blk_cell (j := 0) x6 kk) onn) (sgS (blk_cell (j := 1) x6 kk) onn)) ?_
 refine Fv (.slice A2 n2 c2) ?_
 refine Fv (.int .i64 s) ?_
 refine Fv (.int .i64 id) ?_
 refine Fc [.agg #[.int .i64 m, .slice A n c], .slice A2 n2 c2, .int .i64 s, .int .i64 id] (canBurst_any m A n c ps A2 n2 c2 vs s id _ (Rk ha (Sb c9 s10 nkk)) (Rk hb (Sb c9 s10 nkk)) (by omega) (by omega) hfm2) ?_
 rintro e w12 ⟨rfl, b11⟩
 have s13 := SG.of_below s10 b11
 refine ⟨_, rfl, s13, ?_⟩
 apply F.nx
 rcases Bool.eq_false_or_eq_true (canB m ps vs s id) with q14 | q14
 ·rw [q14]
  obtain ⟨hv9, hs, hfa⟩ := canB_of q14
  have hg := hv9.net
  have hgl := hg.lo
  have hgh := hg.hi
  have hp := hg.pipesIn
  have hlen10 := hg.len
  have hu := hv9.uniq
  have hvl := hv9.len
  refine Fq (.bool false) (r_not (b := true) rfl ek rfl) ?_
  refine Fv (.bool false) ?_
  refine Fv (.slice A3 n3 c3) ?_
  refine Fc [.slice A3 n3 c3, .int .i64 1, .int .i64 99] (ascending_any A3 n3 c3 pl 1 99 _ (Rk hp3 (Sb c9 s13 nkk)) (by omega)) ?_
  rintro e w16 ⟨rfl, b15⟩
  have s17 := SG.of_below s13 b15
  refine ⟨_, rfl, s17, ?_⟩
  apply F.nx
  rcases Bool.eq_false_or_eq_true (riseL 1 99 pl) with q18 | q18
  ·rw [q18]
   have hrl := riseL_len q18
   refine Fq (.bool false) (r_not (b := true) rfl ek rfl) ?_
   refine Fq (.bool false) (r_pick (b := false) rfl ek ek) ?_
   apply F.es
   have x6 := Sk s17 x6 onn
   have c19 := (Sb c9 s17 nkk)
   apply h3
   refine wp_cond_false ek ?_
   apply wp_skip
   apply h2
   refine wk fun K4 h4 => ?_
   refine wk fun K5 h5 => ?_
   refine Rq 3 ?_
   refine Fv (.slice A3 n3 c3) ?_
   refine Fq (.int .i64 (n3 : Int)) (r_len (A := A3) (n := n3) (c := c3) rfl ek kk) ?_
   refine Fv (.int .i64 0) ?_
   apply F.es
   apply h5
   refine wp_block ?_
   refine loopK (fun am0 aa0 wl0 => ∃ (k : Nat) , Kn aa0 [(0, .agg #[.int .i64 m, .slice A n c]), (1, .slice A2 n2 c2), (2, .int .i64 s), (3, .int .i64 id), (4, .slice A3 n3 c3), (5, .pointer (some ⟨b2, 0, none⟩)), (10, .bool false), (24, .bool false), (25, .slice A3 n3 c3), (26, .int .i64 (n3 : Int)), (27, .int .i64 (k : Int))] 50 ∧ (am0 = n3 - k) ∧ (k ≤ n3) ∧ (∀ j z, j < k → pl[j]? = some z → (openIds vs).contains z = true) ∧ (wl0.heap[b2]? = some (.cells #[.int .i64 m, .slice A n c] 26 (0, 0))) ∧ (Below w.heap.size w wl0)) (n3 - 0) ?_ ?_
   ·exact ⟨0, Kn.of, rfl, (Nat.zero_le _), (fun j z hj => absurd hj (by omega)), x6, c19⟩
   rintro am0 aa0 wl0 K6 h6 ⟨k, ⟨U0, rfl⟩, rfl, hk, hall, x6, c20⟩
   refine wk fun K7 h7 => ?_
   refine Rq 1 ?_
   by_cases q21 : ((k : Int) : Int) < ((n3 : Int) : Int)
   ·refine Fq (.bool true) (r_lss (m := (k : Int)) (n := (n3 : Int)) rfl ek ek (dt q21)) ?_
    apply F.es
    apply h7
    refine wk fun K8 h8 => ?_
    refine wp_cond_true ek ?_
    apply wp_skip
    apply h8
    refine wk fun K9 h9 => ?_
    refine wp_block ?_
    refine wk fun K10 h10 => ?_
    refine Rq 3 ?_
    obtain ⟨x22, hx23⟩ := get_of (zs := pl) (k := k) (by have := hl3; omega)
    obtain ⟨b24, o25, hA26, hb27, hc28⟩ := Rd.elInt hp3 hx23
    refine Fq (.pointer (some ⟨b24, o25 + k, none⟩)) (r_idx1 (n := n3) (c := c3) (k := k) rfl ek hA26 kk kk (by have := hl3; omega)) ?_
    refine Fl (.int .i64 x22) (eqS (later c20 hc28)) ?_
    refine Fa (.int .i64 x22) ?_
    apply F.es
    apply h10
    refine wk fun K11 h11 => ?_
    refine W.region_plain (row := none) [(0, false), (1, false), (2, true), (3, false)] kk ?_
    have s29 := SG.self wl0 none
    refine Fv (.slice A2 n2 c2) ?_
    refine Fv (.int .i64 x22) ?_
    refine Fc [.slice A2 n2 c2, .int .i64 x22] (valveIndex_any A2 n2 c2 vs x22 _ (Rk hb (Sb c20 s29 nkk)) (by omega)) ?_
    rintro e w31 ⟨rfl, b30⟩
    have s32 := SG.of_below s29 b30
    refine ⟨_, rfl, s32, ?_⟩
    apply F.nx
    refine Fa (.int .i64 (idxV (idQ x22) vs)) ?_
    apply F.es
    have x6 := Sk s32 x6 onn
    have c33 := (Sb c20 s32 nkk)
    apply h11
    refine wk fun K12 h12 => ?_
    refine Rq 9 ?_
    refine Fv (.int .i64 (idxV (idQ x22) vs)) ?_
    by_cases q34 : ((idxV (idQ x22) vs) : Int) < (0 : Int)
    ·refine Fq (.bool true) (r_lss (m := (idxV (idQ x22) vs)) (n := 0) rfl ek ek (dt q34)) ?_
     refine Fv (.bool true) ?_
     refine Fs rfl ?_
     refine Fs rfl ?_
     refine Fs rfl ?_
     refine Fs rfl ?_
     refine Fs rfl ?_
     refine Fq (.bool true) (r_pick (b := true) rfl ek ek) ?_
     apply F.es
     apply h12
     refine wp_cond_true ek ?_
     refine wk fun K13 h13 => ?_
     refine Rq 1 ?_
     refine Fa (.bool false) ?_
     apply F.es
     apply h13
     refine wp_ret ?_
     try simp only [Exit.then, Exit.inBlock]
     refine ret1 (v := .bool false) rfl kk ?_
     have e8 := planAll_no (vs := vs) hx23 (open_none (vs := vs) (a := x22) (by omega))
     exact ⟨ret_bool (show false = IsPlan_v0 m ps vs s id pl from by unfold IsPlan_v0; rw [q14, q18, e8]; try rfl), c33⟩
    refine Fq (.bool false) (r_lss (m := (idxV (idQ x22) vs)) (n := 0) rfl ek ek (df q34)) ?_
    refine Fv (.bool false) ?_
    refine Fv (.slice A2 n2 c2) ?_
    refine Fv (.int .i64 (idxV (idQ x22) vs)) ?_
    obtain ⟨k9, x9, e9, hx9, hq9⟩ := idx_some (vs := vs) (q := idQ x22) (by omega)
    have hk9 := (List.getElem?_eq_some_iff.1 hx9).1
    obtain ⟨b35, o36, hA37, hb38, hc39, hc40, hc41, hc42⟩ := Rd.elValve hb hx9
    refine Fq (.pointer (some ⟨b35, o36 + k9 * 4, none⟩)) (r_idx (n := n2) (c := c2) (k := k9) rfl ek hA37 (evk (z := (idxV (idQ x22) vs)) kk e9) kk (by have := hl2; omega)) ?_
    refine Fq (.pointer (some ⟨b35, o36 + k9 * 4 + 3, none⟩)) (r_field (k := 3) rfl ek kk) ?_
    refine Fl (.bool x9.shut) (eqS (later c33 hc42)) ?_
    refine Fq (.bool x9.shut) (r_pick (b := false) rfl ek ek) ?_
    apply F.es
    apply h12
    rcases Bool.eq_false_or_eq_true x9.shut with q43 | q43
    ·rw [q43]
     refine wp_cond_true ek ?_
     refine wk fun K14 h14 => ?_
     refine Rq 1 ?_
     refine Fa (.bool false) ?_
     apply F.es
     apply h14
     refine wp_ret ?_
     try simp only [Exit.then, Exit.inBlock]
     refine ret1 (v := .bool false) rfl kk ?_
     have e8 := planAll_no (vs := vs) hx23 (by rw [open_first hv9 hx9 (of_decide_eq_true hq9), q43]; try rfl)
     exact ⟨ret_bool (show false = IsPlan_v0 m ps vs s id pl from by unfold IsPlan_v0; rw [q14, q18, e8]; try rfl), c33⟩
    rw [q43]
    refine wp_cond_false ek ?_
    apply wp_skip
    apply h9
    refine Rq 2 ?_
    refine Fq (.int .i64 ((k + 1 : Nat) : Int)) (r_add (m := (k : Int)) (n := 1) (z := ((k + 1 : Nat) : Int)) rfl ek ek (by omega) (by omega)) ?_
    refine Fv (.int .i64 ((k + 1 : Nat) : Int)) ?_
    apply F.es
    exact h6 _ _ _ (by omega : (n3 - (k + 1)) < _) ⟨k + 1, Kn.of, rfl, (by omega), (upto_succ (Q := fun z => (openIds vs).contains z = true) hall hx23 (by rw [open_first hv9 hx9 (of_decide_eq_true hq9), q43]; try rfl)), x6, c33⟩
   refine Fq (.bool false) (r_lss (m := (k : Int)) (n := (n3 : Int)) rfl ek ek (df q21)) ?_
   apply F.es
   apply h7
   refine wk fun K15 h15 => ?_
   refine wp_cond_false ek ?_
   refine wp_exit ?_
   apply h4
   refine wk fun K16 h16 => ?_
   refine W.region_plain (row := none) [(0, false), (1, false), (2, false), (3, false), (4, false), (5, true), (6, false)] kk ?_
   have s44 := SG.self wl0 none
   refine Fq (.agg #[.int .i64 m, .slice A n c]) (r_load2 rfl ek kk kk (sgS (blk_cell (j := 0) x6 kk) onn) (sgS (blk_cell (j := 1) x6 kk) onn)) ?_
   refine Fv (.slice A2 n2 c2) ?_
   refine Fv (.int .i64 s) ?_
   refine Fv (.int .i64 id) ?_
   refine Fv (.slice A3 n3 c3) ?_
   refine Fc [.agg #[.int .i64 m, .slice A n c], .slice A2 n2 c2, .int .i64 s, .int .i64 id, .slice A3 n3 c3] (isolates_any m A n c ps A2 n2 c2 vs s id A3 n3 c3 pl _ (Rk ha (Sb c20 s44 nkk)) (Rk hb (Sb c20 s44 nkk)) (by omega) (by omega) hfm2 hv9 hs hfa (Rk hp3 (Sb c20 s44 nkk)) (by omega)) ?_
   rintro e w46 ⟨rfl, b45⟩
   have s47 := SG.of_below s44 b45
   refine ⟨_, rfl, s47, ?_⟩
   apply F.nx
   rcases Bool.eq_false_or_eq_true (cutB ps vs s id pl) with q48 | q48
   ·rw [q48]
    refine Fa (.bool true) ?_
    apply F.es
    have c49 := (Sb c20 s47 nkk)
    apply h16
    refine wp_ret ?_
    try simp only [Exit.then]
    refine ret1 (v := .bool true) rfl kk ?_
    have e8 := planAll_yes (vs := vs) hl3 hall (by omega)
    exact ⟨ret_bool (show true = IsPlan_v0 m ps vs s id pl from by unfold IsPlan_v0; rw [q14, q18, e8, q48]; try rfl), c49⟩
   rw [q48]
   refine Fa (.bool false) ?_
   apply F.es
   have c50 := (Sb c20 s47 nkk)
   apply h16
   refine wp_ret ?_
   try simp only [Exit.then]
   refine ret1 (v := .bool false) rfl kk ?_
   have e8 := planAll_yes (vs := vs) hl3 hall (by omega)
   exact ⟨ret_bool (show false = IsPlan_v0 m ps vs s id pl from by unfold IsPlan_v0; rw [q14, q18, e8, q48]; try rfl), c50⟩
  rw [q18]
  refine Fq (.bool true) (r_not (b := false) rfl ek rfl) ?_
  refine Fq (.bool true) (r_pick (b := false) rfl ek ek) ?_
  apply F.es
  have c51 := (Sb c9 s17 nkk)
  apply h3
  refine wp_cond_true ek ?_
  refine wk fun K17 h17 => ?_
  refine Rq 1 ?_
  refine Fa (.bool false) ?_
  apply F.es
  apply h17
  refine wp_ret ?_
  try simp only [Exit.then]
  refine ret1 (v := .bool false) rfl kk ?_
  exact ⟨ret_bool (show false = IsPlan_v0 m ps vs s id pl from by unfold IsPlan_v0; rw [q14, q18]; try rfl), c51⟩
 rw [q14]
 refine Fq (.bool true) (r_not (b := false) rfl ek rfl) ?_
 refine Fv (.bool true) ?_
 refine Fs s13 ?_
 refine Fs s13 ?_
 refine Fs s13 ?_
 refine Fq (.bool true) (r_pick (b := true) rfl ek ek) ?_
 apply F.es
 have c52 := (Sb c9 s13 nkk)
 apply h3
 refine wp_cond_true ek ?_
 refine wk fun K18 h18 => ?_
 refine Rq 1 ?_
 refine Fa (.bool false) ?_
 apply F.es
 apply h18
 refine wp_ret ?_
 try simp only [Exit.then]
 refine ret1 (v := .bool false) rfl kk ?_
 exact ⟨ret_bool (show false = IsPlan_v0 m ps vs s id pl from by unfold IsPlan_v0; rw [q14]; try rfl), c52⟩
set_option maxRecDepth 100000 in
set_option maxHeartbeats 8000000 in
theorem l5Plan_any (m : Int) (A : Option Addr) (n c : Nat) (ps : List Pp) (A2 : Option Addr) (n2 c2 : Nat) (vs : List Vv) (s id : Int) (A3 : Option Addr) (n3 c3 : Nat) (pl : List Int) (w : World) (ha : Rd w 4 A n (pipesV ps)) (hb : Rd w 4 A2 n2 (valvesV vs)) (hp3 : Rd w 1 A3 n3 (intsV pl)) (hn : n ≤ 1048576) (hn2 : n2 ≤ 1048576) (hn3 : n3 ≤ 1048576) (hfm : Fm A n c) (hfm2 : Fm A2 n2 c2) (hfp : Fm A3 n3 c3) :
    Calls Try.prog 117 #[.agg #[.int .i64 m, .slice A n c], .slice A2 n2 c2, .int .i64 s, .int .i64 id, .slice A3 n3 c3] w fun e w' => e = .returned (.bool (IsPlan_v0 m ps vs s id pl)) ∧ Below w.heap.size w w' := by
 have hl := rd_pipes_len ha
 have hl2 := rd_valves_len hb
 have hl3 := rd_ints_len hp3
 go_enter Try.func117, Try.ntmps117
 refine F.begin 45 [(0, .agg #[.int .i64 m, .slice A n c]), (1, .slice A2 n2 c2), (2, .int .i64 s), (3, .int .i64 id), (4, .slice A3 n3 c3)] (fun U0 => ?_)
 refine wk fun K1 h1 => ?_
 refine W.region_plain (row := none) [(0, true), (1, false)] kk ?_
 have s1 := SG.self w none
 refine W.sn (fun b => .pointer (some ⟨b, 0, none⟩)) #[.int .i64 m, .slice A n c] 26 s1 rfl kk rfl (fun _ => by kernel_rfl) (fun b2 w3 hb4 k5 x6 s7 => ?_)
 apply F.nx
 have lo8 : w.heap.size ≤ b2 := Nl ((Sb (Below.refl _ _) s1 nkk)).size (Nat.le_of_eq hb4)
 refine Fa (.bool false) ?_
 apply F.es
 have c9 := (Sb (Below.refl _ _) s7 nkk)
 apply h1
 refine wk fun K2 h2 => ?_
 refine wk fun K3 h3 => ?_
 refine W.region_plain (row := none) [(0, false), (1, false), (2, false), (3, false), (4, true), (5, false), (6, false), (7, false), (8, true), (9, false), (10, false)] kk ?_
 have s10 := SG.self w3 none
 refine Fq (.agg #[.int .i64 m, .slice A n c]) (r_load2 rfl ek kk kk (sgS (blk_cell (j := 0) x6 kk) onn) (sgS (blk_cell (j := 1) x6 kk) onn)) ?_
 refine Fv (.slice A2 n2 c2) ?_
 refine Fv (.int .i64 s) ?_
 refine Fv (.int .i64 id) ?_
 refine Fc [.agg #[.int .i64 m, .slice A n c], .slice A2 n2 c2, .int .i64 s, .int .i64 id] (l5Asked_any m A n c ps A2 n2 c2 vs s id _ (Rk ha (Sb c9 s10 nkk)) (Rk hb (Sb c9 s10 nkk)) (by omega) (by omega) hfm2) ?_
 rintro e w12 ⟨rfl, b11⟩
 have s13 := SG.of_below s10 b11
 refine ⟨_, rfl, s13, ?_⟩
 apply F.nx
 rcases Bool.eq_false_or_eq_true (canB m ps vs s id) with q14 | q14
 ·rw [q14]
  obtain ⟨hv9, hs, hfa⟩ := canB_of q14
  have hg := hv9.net
  have hgl := hg.lo
  have hgh := hg.hi
  have hp := hg.pipesIn
  have hlen10 := hg.len
  have hu := hv9.uniq
  have hvl := hv9.len
  refine Fq (.bool false) (r_not (b := true) rfl ek rfl) ?_
  refine Fv (.bool false) ?_
  refine Fv (.slice A3 n3 c3) ?_
  refine Fc [.slice A3 n3 c3, .int .i64 1, .int .i64 99] (l1Rising_any A3 n3 c3 pl 1 99 _ (Rk hp3 (Sb c9 s13 nkk)) (by omega)) ?_
  rintro e w16 ⟨rfl, b15⟩
  have s17 := SG.of_below s13 b15
  refine ⟨_, rfl, s17, ?_⟩
  apply F.nx
  rcases Bool.eq_false_or_eq_true (riseL 1 99 pl) with q18 | q18
  ·rw [q18]
   have hrl := riseL_len q18
   refine Fq (.bool false) (r_not (b := true) rfl ek rfl) ?_
   refine Fq (.bool false) (r_pick (b := false) rfl ek ek) ?_
   apply F.es
   have x6 := Sk s17 x6 onn
   have c19 := (Sb c9 s17 nkk)
   apply h3
   refine wp_cond_false ek ?_
   apply wp_skip
   apply h2
   refine wk fun K4 h4 => ?_
   refine W.region_plain (row := none) [(0, false), (1, true), (2, false)] kk ?_
   have s20 := SG.self w16 none
   refine Fv (.slice A2 n2 c2) ?_
   refine Fc [.slice A2 n2 c2] (l5Open_any A2 n2 c2 vs _ (Rk hb (Sb c19 s20 nkk)) (by omega)) ?_
   rintro e w30 ⟨A21, n22, c23, rfl, ho24, b29⟩
   have s31 := SG.of_below s20 b29
   refine ⟨_, rfl, s31, ?_⟩
   apply F.nx
   have rd25 := own_rd ho24
   have hl26 := rd_ints_len rd25
   have := openIds_len vs
   refine Fa (.slice A21 n22 c23) ?_
   apply F.es
   have x6 := Sk s31 x6 onn
   have c33 := (Sb c19 s31 nkk)
   apply h4
   refine wk fun K5 h5 => ?_
   refine wk fun K6 h6 => ?_
   refine Rq 1 ?_
   refine Fa (.int .i64 0) ?_
   apply F.es
   apply h6
   refine wp_block ?_
   refine loopK (fun am0 aa0 wl0 => ∃ (k : Nat) , Kn aa0 [(0, .agg #[.int .i64 m, .slice A n c]), (1, .slice A2 n2 c2), (2, .int .i64 s), (3, .int .i64 id), (4, .slice A3 n3 c3), (5, .pointer (some ⟨b2, 0, none⟩)), (10, .bool false), (11, .slice A21 n22 c23), (12, .int .i64 (k : Int)), (23, .bool false)] 45 ∧ (am0 = n3 - k) ∧ (k ≤ n3) ∧ (∀ j z, j < k → pl[j]? = some z → (openIds vs).contains z = true) ∧ (wl0.heap[b2]? = some (.cells #[.int .i64 m, .slice A n c] 26 (0, 0))) ∧ (Rd wl0 1 A21 n22 (intsV (openIds vs))) ∧ (Below w.heap.size w wl0)) (n3 - 0) ?_ ?_
   ·exact ⟨0, Kn.of, rfl, (Nat.zero_le _), (fun j z hj => absurd hj (by omega)), x6, rd25, c33⟩
   rintro am0 aa0 wl0 K7 h7 ⟨k, ⟨U0, rfl⟩, rfl, hk, hall, x6, rd0_11, c34⟩
   refine wk fun K8 h8 => ?_
   refine wk fun K9 h9 => ?_
   refine Rq 4 ?_
   refine Fv (.int .i64 (k : Int)) ?_
   refine Fv (.slice A3 n3 c3) ?_
   refine Fq (.int .i64 (n3 : Int)) (r_len (A := A3) (n := n3) (c := c3) rfl ek kk) ?_
   by_cases q35 : ((k : Int) : Int) < ((n3 : Int) : Int)
   ·refine Fq (.bool true) (r_lss (m := (k : Int)) (n := (n3 : Int)) rfl ek ek (dt q35)) ?_
    apply F.es
    apply h9
    refine wp_cond_true ek ?_
    apply wp_skip
    apply h8
    refine wk fun K10 h10 => ?_
    refine wp_block ?_
    refine wk fun K11 h11 => ?_
    refine W.region_plain (row := none) [(0, false), (1, false), (2, false), (3, false), (4, false), (5, true), (6, false)] kk ?_
    have s36 := SG.self wl0 none
    refine Fv (.slice A21 n22 c23) ?_
    refine Fv (.slice A3 n3 c3) ?_
    refine Fv (.int .i64 (k : Int)) ?_
    obtain ⟨x37, hx38⟩ := get_of (zs := pl) (k := k) (by have := hl3; omega)
    obtain ⟨b39, o40, hA41, hb42, hc43⟩ := Rd.elInt hp3 hx38
    refine Fq (.pointer (some ⟨b39, o40 + k, none⟩)) (r_idx1 (n := n3) (c := c3) (k := k) rfl ek hA41 kk kk (by have := hl3; omega)) ?_
    refine Fl (.int .i64 x37) (sgS (later c34 hc43) (by simp)) ?_
    refine Fc [.slice A21 n22 c23, .int .i64 x37] (l1Has_any A21 n22 c23 (openIds vs) x37 _ (Rk rd0_11 (SG.below s36)) (by omega)) ?_
    rintro e w45 ⟨rfl, b44⟩
    have s46 := SG.of_below s36 b44
    refine ⟨_, rfl, s46, ?_⟩
    apply F.nx
    rcases Bool.eq_false_or_eq_true ((openIds vs).contains x37) with q47 | q47
    ·rw [q47]
     refine Fq (.bool false) (r_not (b := true) rfl ek rfl) ?_
     apply F.es
     have x6 := Sk s46 x6 onn
     have c48 := (Sb c34 s46 nkk)
     have rd49 := Rk rd0_11 (SG.below s46)
     apply h11
     refine wp_cond_false ek ?_
     apply wp_skip
     apply h10
     refine Rq 3 ?_
     refine Fv (.int .i64 (k : Int)) ?_
     refine Fq (.int .i64 ((k + 1 : Nat) : Int)) (r_add (m := (k : Int)) (n := 1) (z := ((k + 1 : Nat) : Int)) rfl ek ek (by omega) (by omega)) ?_
     refine Fa (.int .i64 ((k + 1 : Nat) : Int)) ?_
     apply F.es
     exact h7 _ _ _ (by omega : (n3 - (k + 1)) < _) ⟨k + 1, Kn.of, rfl, (by omega), (upto_succ (Q := fun z => (openIds vs).contains z = true) hall hx38 (q47)), x6, rd49, c48⟩
    rw [q47]
    refine Fq (.bool true) (r_not (b := false) rfl ek rfl) ?_
    apply F.es
    have x6 := Sk s46 x6 onn
    have c50 := (Sb c34 s46 nkk)
    apply h11
    refine wp_cond_true ek ?_
    refine wk fun K12 h12 => ?_
    refine Rq 1 ?_
    refine Fa (.bool false) ?_
    apply F.es
    apply h12
    refine wp_ret ?_
    try simp only [Exit.then, Exit.inBlock]
    refine ret1 (v := .bool false) rfl kk ?_
    have e8 := planAll_no (vs := vs) hx38 (q47)
    exact ⟨ret_bool (show false = IsPlan_v0 m ps vs s id pl from by unfold IsPlan_v0; rw [q14, q18, e8]; try rfl), c50⟩
   refine Fq (.bool false) (r_lss (m := (k : Int)) (n := (n3 : Int)) rfl ek ek (df q35)) ?_
   apply F.es
   apply h9
   refine wp_cond_false ek ?_
   refine wp_exit ?_
   apply h5
   refine wk fun K13 h13 => ?_
   refine W.region_plain (row := none) [(0, false), (1, false), (2, false), (3, false), (4, false), (5, true), (6, false)] kk ?_
   have s52 := SG.self wl0 none
   refine Fq (.agg #[.int .i64 m, .slice A n c]) (r_load2 rfl ek kk kk (sgS (blk_cell (j := 0) x6 kk) onn) (sgS (blk_cell (j := 1) x6 kk) onn)) ?_
   refine Fv (.slice A2 n2 c2) ?_
   refine Fv (.int .i64 s) ?_
   refine Fv (.int .i64 id) ?_
   refine Fv (.slice A3 n3 c3) ?_
   refine Fc [.agg #[.int .i64 m, .slice A n c], .slice A2 n2 c2, .int .i64 s, .int .i64 id, .slice A3 n3 c3] (l5Cut_any m A n c ps A2 n2 c2 vs s id A3 n3 c3 pl _ (Rk ha (Sb c34 s52 nkk)) (Rk hb (Sb c34 s52 nkk)) (by omega) (by omega) hfm2 hv9 hs hfa (Rk hp3 (Sb c34 s52 nkk)) (by omega)) ?_
   rintro e w54 ⟨rfl, b53⟩
   have s55 := SG.of_below s52 b53
   refine ⟨_, rfl, s55, ?_⟩
   apply F.nx
   rcases Bool.eq_false_or_eq_true (cutB ps vs s id pl) with q56 | q56
   ·rw [q56]
    refine Fa (.bool true) ?_
    apply F.es
    have c57 := (Sb c34 s55 nkk)
    apply h13
    refine wp_ret ?_
    try simp only [Exit.then]
    refine ret1 (v := .bool true) rfl kk ?_
    have e8 := planAll_yes (vs := vs) hl3 hall (by omega)
    exact ⟨ret_bool (show true = IsPlan_v0 m ps vs s id pl from by unfold IsPlan_v0; rw [q14, q18, e8, q56]; try rfl), c57⟩
   rw [q56]
   refine Fa (.bool false) ?_
   apply F.es
   have c59 := (Sb c34 s55 nkk)
   apply h13
   refine wp_ret ?_
   try simp only [Exit.then]
   refine ret1 (v := .bool false) rfl kk ?_
   have e8 := planAll_yes (vs := vs) hl3 hall (by omega)
   exact ⟨ret_bool (show false = IsPlan_v0 m ps vs s id pl from by unfold IsPlan_v0; rw [q14, q18, e8, q56]; try rfl), c59⟩
  rw [q18]
  refine Fq (.bool true) (r_not (b := false) rfl ek rfl) ?_
  refine Fq (.bool true) (r_pick (b := false) rfl ek ek) ?_
  apply F.es
  have c61 := (Sb c9 s17 nkk)
  apply h3
  refine wp_cond_true ek ?_
  refine wk fun K14 h14 => ?_
  refine Rq 1 ?_
  refine Fa (.bool false) ?_
  apply F.es
  apply h14
  refine wp_ret ?_
  try simp only [Exit.then]
  refine ret1 (v := .bool false) rfl kk ?_
  exact ⟨ret_bool (show false = IsPlan_v0 m ps vs s id pl from by unfold IsPlan_v0; rw [q14, q18]; try rfl), c61⟩
 rw [q14]
 refine Fq (.bool true) (r_not (b := false) rfl ek rfl) ?_
 refine Fv (.bool true) ?_
 refine Fs s13 ?_
 refine Fs s13 ?_
 refine Fs s13 ?_
 refine Fq (.bool true) (r_pick (b := true) rfl ek ek) ?_
 apply F.es
 have c62 := (Sb c9 s13 nkk)
 apply h3
 refine wp_cond_true ek ?_
 refine wk fun K15 h15 => ?_
 refine Rq 1 ?_
 refine Fa (.bool false) ?_
 apply F.es
 apply h15
 refine wp_ret ?_
 try simp only [Exit.then]
 refine ret1 (v := .bool false) rfl kk ?_
 exact ⟨ret_bool (show false = IsPlan_v0 m ps vs s id pl from by unfold IsPlan_v0; rw [q14]; try rfl), c62⟩
set_option maxRecDepth 100000 in
set_option maxHeartbeats 8000000 in
theorem IsPlan_spec (m : Int) (A : Option Addr) (n c : Nat) (ps : List Pp) (A2 : Option Addr) (n2 c2 : Nat) (vs : List Vv) (s id : Int) (A3 : Option Addr) (n3 c3 : Nat) (pl : List Int) (w : World) (ha : Rd w 4 A n (pipesV ps)) (hb : Rd w 4 A2 n2 (valvesV vs)) (hp3 : Rd w 1 A3 n3 (intsV pl)) (hn : n ≤ 1048576) (hn2 : n2 ≤ 1048576) (hn3 : n3 ≤ 1048576) (hfm : Fm A n c) (hfm2 : Fm A2 n2 c2) (hfp : Fm A3 n3 c3) :
    Calls Try.prog 52 #[.agg #[.int .i64 m, .slice A n c], .slice A2 n2 c2, .int .i64 s, .int .i64 id, .slice A3 n3 c3] w fun e w' => e = .returned (.bool (IsPlan_v0 m ps vs s id pl)) ∧ Below w.heap.size w w' := by
 have hl := rd_pipes_len ha
 have hl2 := rd_valves_len hb
 have hl3 := rd_ints_len hp3
 go_enter Try.func52, Try.ntmps52
 refine F.begin 17 [(0, .agg #[.int .i64 m, .slice A n c]), (1, .slice A2 n2 c2), (2, .int .i64 s), (3, .int .i64 id), (4, .slice A3 n3 c3)] (fun U0 => ?_)
 refine wk fun K1 h1 => ?_
 refine W.region_plain (row := none) [(0, true), (1, false)] kk ?_
 have s1 := SG.self w none
 refine W.sn (fun b => .pointer (some ⟨b, 0, none⟩)) #[.int .i64 m, .slice A n c] 26 s1 rfl kk rfl (fun _ => by kernel_rfl) (fun b2 w3 hb4 k5 x6 s7 => ?_)
 apply F.nx
 have lo8 : w.heap.size ≤ b2 := Nl ((Sb (Below.refl _ _) s1 nkk)).size (Nat.le_of_eq hb4)
 refine Fa (.bool false) ?_
 apply F.es
 have c9 := (Sb (Below.refl _ _) s7 nkk)
 apply h1
 refine wk fun K2 h2 => ?_
 refine W.region_plain (row := none) [(0, false), (1, false), (2, false), (3, false), (4, false), (5, true), (6, false)] kk ?_
 have s10 := SG.self w3 none
 refine Fq (.agg #[.int .i64 m, .slice A n c]) (r_load2 rfl ek kk kk (sgS (blk_cell (j := 0) x6 kk) onn) (sgS (blk_cell (j := 1) x6 kk) onn)) ?_
 refine Fv (.slice A2 n2 c2) ?_
 refine Fv (.int .i64 s) ?_
 refine Fv (.int .i64 id) ?_
 refine Fv (.slice A3 n3 c3) ?_
 refine Fc [.agg #[.int .i64 m, .slice A n c], .slice A2 n2 c2, .int .i64 s, .int .i64 id, .slice A3 n3 c3] (l5Plan_any m A n c ps A2 n2 c2 vs s id A3 n3 c3 pl _ (Rk ha (Sb c9 s10 nkk)) (Rk hb (Sb c9 s10 nkk)) (Rk hp3 (Sb c9 s10 nkk)) (by omega) (by omega) (by omega) hfm hfm2 hfp) ?_
 rintro e w12 ⟨rfl, b11⟩
 have s13 := SG.of_below s10 b11
 refine ⟨_, rfl, s13, ?_⟩
 apply F.nx
 rcases Bool.eq_false_or_eq_true (IsPlan_v0 m ps vs s id pl) with q14 | q14
 ·rw [q14]
  refine Fa (.bool true) ?_
  apply F.es
  have c15 := (Sb c9 s13 nkk)
  apply h2
  refine wp_ret ?_
  try simp only [Exit.then]
  refine ret1 (v := .bool true) rfl kk ?_
  exact ⟨ret_bool q14.symm, c15⟩
 rw [q14]
 refine Fa (.bool false) ?_
 apply F.es
 have c16 := (Sb c9 s13 nkk)
 apply h2
 refine wp_ret ?_
 try simp only [Exit.then]
 refine ret1 (v := .bool false) rfl kk ?_
 exact ⟨ret_bool q14.symm, c16⟩
end Go.Proofs.Ytdbgfejeleafgaa
namespace Go.Proofs.Ytdbgfejeleafgaa
open Go.RowKit
set_option linter.unusedVariables false
set_option linter.unusedSimpArgs false
set_option maxRecDepth 100000 in
set_option maxHeartbeats 8000000 in
theorem wi_FnPlans (A : Option Addr) (n c : Nat) (zs : List Int) (w : World) (hcode : Rd w 1 A n (bytesV zs)) (hz : ∀ z ∈ zs, 0 ≤ z ∧ z < 256) (hn : n ≤ 9223372036854775807) :
    Calls Try.prog 6 #[.slice A n c] w fun e w' => e = .returned (.bool true) ∧ Below w.heap.size w w' := by
 have hl := rd_bytes_len hcode
 go_enter Try.func6, Try.ntmps6
 refine F.begin 224 [(0, .slice A n c)] (fun U0 => ?_)
 refine wk fun K1 h1 => ?_
 refine Rq 1 ?_
 refine Fa (.bool false) ?_
 apply F.es
 apply h1
 refine wk fun K2 h2 => ?_
 refine wk fun K3 h3 => ?_
 refine W.region_plain (row := none) [(0, false), (1, true)] kk ?_
 have s1 := SG.self w none
 refine Fv (.slice A n c) ?_
 refine Fc [.slice A n c] (vBig_any A n c zs _ (Rk hcode (Sb (Below.refl _ _) s1 nkk)) hz hn) ?_
 rintro e w3 ⟨rfl, b2⟩
 have s4 := SG.of_below s1 b2
 refine ⟨_, rfl, s4, ?_⟩
 apply F.nx
 rcases Bool.eq_false_or_eq_true (decide (65536 < n)) with q5 | q5
 ·rw [q5]
  apply F.es
  have c6 := (Sb (Below.refl _ _) s4 nkk)
  apply h3
  refine wp_cond_true ek ?_
  refine wk fun K4 h4 => ?_
  refine Rq 1 ?_
  refine Fa (.bool true) ?_
  apply F.es
  apply h4
  refine wp_ret ?_
  try simp only [Exit.then]
  refine ret1 (v := .bool true) rfl kk ?_
  exact ⟨rfl, c6⟩
 rw [q5]
 apply F.es
 have c7 := (Sb (Below.refl _ _) s4 nkk)
 apply h3
 refine wp_cond_false ek ?_
 apply wp_skip
 apply h2
 refine wk fun K5 h5 => ?_
 refine W.region_plain (row := none) [(0, false), (1, true), (2, false), (3, false), (4, false), (5, false), (6, false), (7, true), (8, true), (9, false), (10, false), (11, false)] kk ?_
 have s8 := SG.self w3 none
 refine Fv (.slice A n c) ?_
 have z9 := ((Sb c7 s8 nkk)).size
 refine Fc [.slice A n c] (DrawShortestPlan_any A n c zs _ (Rk hcode (Sb c7 s8 nkk)) hz (by have h9 := of_decide_eq_false q5; omega)) ?_
 rintro e w34 ⟨m10, A11, n12, c13, dl14, A21, n22, c23, dl24, x31, x32, rfl, ⟨⟨rd15, fm16, fr20⟩, hsm17⟩, ⟨⟨rd25, fm26, fr30⟩, hsm27⟩, b33⟩
 have s35 := SG.of_below s8 b33
 refine ⟨_, rfl, s35, ?_⟩
 apply F.nx
 have hl18 := rd_pipes_len rd15
 have hsm17m := hsm17.1
 have hsm17n := hsm17.2.1
 have hl28 := rd_valves_len rd25
 refine Fv (.tuple #[.agg #[.int .i64 m10, .slice A11 n12 c13], .slice A21 n22 c23, .int .i64 x31, .int .i64 x32]) ?_
 refine Fq (.agg #[.int .i64 m10, .slice A11 n12 c13]) (r_extract (vs := #[.agg #[.int .i64 m10, .slice A11 n12 c13], .slice A21 n22 c23, .int .i64 x31, .int .i64 x32]) rfl ek kk) ?_
 refine Fq (.slice A21 n22 c23) (r_extract (vs := #[.agg #[.int .i64 m10, .slice A11 n12 c13], .slice A21 n22 c23, .int .i64 x31, .int .i64 x32]) rfl ek kk) ?_
 refine Fq (.int .i64 x31) (r_extract (vs := #[.agg #[.int .i64 m10, .slice A11 n12 c13], .slice A21 n22 c23, .int .i64 x31, .int .i64 x32]) rfl ek kk) ?_
 refine Fq (.int .i64 x32) (r_extract (vs := #[.agg #[.int .i64 m10, .slice A11 n12 c13], .slice A21 n22 c23, .int .i64 x31, .int .i64 x32]) rfl ek kk) ?_
 refine W.sn (fun b => .pointer (some ⟨b, 0, none⟩)) #[.int .i64 0, .slice none 0 0] 26 s35 rfl kk rfl (fun _ => by kernel_rfl) (fun b36 w37 hb38 k39 x40 s41 => ?_)
 apply F.nx
 have lo42 : w.heap.size ≤ b36 := Nl ((Sb c7 s35 nkk)).size (Nat.le_of_eq hb38)
 have sp43 : Sp A11 n12 (some b36) := sp_new rd15 (by have := hb38; omega)
 have sp44 : Sp A21 n22 (some b36) := sp_new rd25 (by have := hb38; omega)
 have rd45 := Rk rd15 k39
 have rd46 := Rk rd25 k39
 refine W.ss (v := .agg #[.int .i64 m10, .slice A11 n12 c13]) (j := 0) (news := [.int .i64 m10, .slice A11 n12 c13]) (cs' := #[.int .i64 m10, .slice A11 n12 c13]) s41 rfl kk rfl rfl kk kk x40 kk kk (by simp) kk kk (.inr (Nl (s35).size (Nat.le_of_eq hb38))) (fun w47 g48 x49 s50 => ?_)
 have rd51 := rd_sepG rd45 g48 sp43
 have rd52 := rd_sepG rd46 g48 sp44
 refine Fa (.slice A21 n22 c23) ?_
 refine Fa (.int .i64 x31) ?_
 refine Fa (.int .i64 x32) ?_
 apply F.es
 have c53 := (Sb c7 s50 nkk)
 apply h5
 as_aux_lemma =>
  refine wk fun K6 h6 => ?_
  refine W.region_plain (row := none) [(0, false), (1, false), (2, false), (3, false), (4, true), (5, false), (6, false), (7, false), (8, false), (9, false)] kk ?_
  have s54 := SG.self w47 none
  refine Fq (.agg #[.int .i64 m10, .slice A11 n12 c13]) (r_load2 rfl ek kk kk (sgS (blk_cell (j := 0) x49 kk) onn) (sgS (blk_cell (j := 1) x49 kk) onn)) ?_
  refine Fv (.slice A21 n22 c23) ?_
  refine Fv (.int .i64 x31) ?_
  refine Fv (.int .i64 x32) ?_
  refine Fc [.agg #[.int .i64 m10, .slice A11 n12 c13], .slice A21 n22 c23, .int .i64 x31, .int .i64 x32] (ShortestPlan_impl m10 A11 n12 c13 dl14 A21 n22 c23 dl24 x31 x32 w47 (Rk rd51 (SG.below s54)) (Rk rd52 (SG.below s54)) (by omega) (by omega) fm16 fm26) ?_
  rintro e w63 ⟨A55, d56, rfl, r57, b62⟩
  have s64 := SG.of_below s54 b62
  refine ⟨_, rfl, s64, ?_⟩
  apply F.nx
  have rd58 := own_rd r57
  have fm59 := own_fm r57
  have hl60 : (ShortestPlan_v0 m10 dl14 dl24 x31 x32).length = (ShortestPlan_v0 m10 dl14 dl24 x31 x32).length := rfl
  have hb65 := ShortestPlan_len m10 dl14 dl24 x31 x32
  refine Fv (.tuple #[.slice A55 ((ShortestPlan_v0 m10 dl14 dl24 x31 x32).length) d56, .bool (ShortestPlan_v1 m10 dl14 dl24 x31 x32)]) ?_
  refine Fq (.slice A55 ((ShortestPlan_v0 m10 dl14 dl24 x31 x32).length) d56) (r_extract (vs := #[.slice A55 ((ShortestPlan_v0 m10 dl14 dl24 x31 x32).length) d56, .bool (ShortestPlan_v1 m10 dl14 dl24 x31 x32)]) rfl ek kk) ?_
  refine Fq (.bool (ShortestPlan_v1 m10 dl14 dl24 x31 x32)) (r_extract (vs := #[.slice A55 ((ShortestPlan_v0 m10 dl14 dl24 x31 x32).length) d56, .bool (ShortestPlan_v1 m10 dl14 dl24 x31 x32)]) rfl ek kk) ?_
  refine Fa (.slice A55 ((ShortestPlan_v0 m10 dl14 dl24 x31 x32).length) d56) ?_
  refine Fa (.bool (ShortestPlan_v1 m10 dl14 dl24 x31 x32)) ?_
  apply F.es
  have x49 := Sk s64 x49 onn
  have c66 := (Sb c53 s64 nkk)
  have rd67 := Rk rd51 (SG.below s64)
  have rd68 := Rk rd52 (SG.below s64)
  apply h6
  refine wk fun K7 h7 => ?_
  refine wk fun K8 h8 => ?_
  refine W.region_plain (row := none) [(0, false), (1, false), (2, false), (3, false), (4, true), (5, false), (6, false), (7, false), (8, false), (9, false)] kk ?_
  have s69 := SG.self w63 none
  refine Fq (.agg #[.int .i64 m10, .slice A11 n12 c13]) (r_load2 rfl ek kk kk (sgS (blk_cell (j := 0) x49 kk) onn) (sgS (blk_cell (j := 1) x49 kk) onn)) ?_
  refine Fv (.slice A21 n22 c23) ?_
  refine Fv (.int .i64 x31) ?_
  refine Fv (.int .i64 x32) ?_
  refine Fc [.agg #[.int .i64 m10, .slice A11 n12 c13], .slice A21 n22 c23, .int .i64 x31, .int .i64 x32] (ShortestPlan_spec m10 A11 n12 c13 dl14 A21 n22 c23 dl24 x31 x32 w63 (Rk rd67 (SG.below s69)) (Rk rd68 (SG.below s69)) (by omega) (by omega) fm16 fm26) ?_
  rintro e w78 ⟨A70, d71, rfl, r72, b77⟩
  have s79 := SG.of_below s69 b77
  refine ⟨_, rfl, s79, ?_⟩
  apply F.nx
  have hl75 : (ShortestPlan_v0 m10 dl14 dl24 x31 x32).length = (ShortestPlan_v0 m10 dl14 dl24 x31 x32).length := rfl
  refine Fv (.tuple #[.slice A70 ((ShortestPlan_v0 m10 dl14 dl24 x31 x32).length) d71, .bool (ShortestPlan_v1 m10 dl14 dl24 x31 x32)]) ?_
  refine Fq (.slice A70 ((ShortestPlan_v0 m10 dl14 dl24 x31 x32).length) d71) (r_extract (vs := #[.slice A70 ((ShortestPlan_v0 m10 dl14 dl24 x31 x32).length) d71, .bool (ShortestPlan_v1 m10 dl14 dl24 x31 x32)]) rfl ek kk) ?_
  refine Fq (.bool (ShortestPlan_v1 m10 dl14 dl24 x31 x32)) (r_extract (vs := #[.slice A70 ((ShortestPlan_v0 m10 dl14 dl24 x31 x32).length) d71, .bool (ShortestPlan_v1 m10 dl14 dl24 x31 x32)]) rfl ek kk) ?_
  refine Fa (.slice A70 ((ShortestPlan_v0 m10 dl14 dl24 x31 x32).length) d71) ?_
  refine Fa (.bool (ShortestPlan_v1 m10 dl14 dl24 x31 x32)) ?_
  apply F.es
  have x49 := Sk s79 x49 onn
  have c80 := (Sb c66 s79 nkk)
  have rd81 := Rk rd67 (SG.below s79)
  have rd82 := Rk rd68 (SG.below s79)
  have rd83 := Rk rd58 (SG.below s79)
  apply h8
  refine wk fun K9 h9 => ?_
  refine W.region_plain (row := none) [(0, false), (1, false), (2, false), (3, false), (4, false), (5, false), (6, true), (7, false), (8, false)] kk ?_
  have s84 := SG.self w78 none
  refine Fv (.bool (ShortestPlan_v1 m10 dl14 dl24 x31 x32)) ?_
  refine Fv (.bool (ShortestPlan_v1 m10 dl14 dl24 x31 x32)) ?_
  refine Fq (.bool false) (r_neqB (m := (ShortestPlan_v1 m10 dl14 dl24 x31 x32)) (n := (ShortestPlan_v1 m10 dl14 dl24 x31 x32)) rfl ek ek kk (by rw [show ((ShortestPlan_v1 m10 dl14 dl24 x31 x32) == (ShortestPlan_v1 m10 dl14 dl24 x31 x32)) = true from beq_iff_eq.2 rfl]; try rfl)) ?_
  refine Fv (.bool false) ?_
  refine Fv (.slice A55 ((ShortestPlan_v0 m10 dl14 dl24 x31 x32).length) d56) ?_
  refine Fv (.slice A70 ((ShortestPlan_v0 m10 dl14 dl24 x31 x32).length) d71) ?_
  refine Fc [.slice A55 ((ShortestPlan_v0 m10 dl14 dl24 x31 x32).length) d56, .slice A70 ((ShortestPlan_v0 m10 dl14 dl24 x31 x32).length) d71] (vInts_same A55 A70 ((ShortestPlan_v0 m10 dl14 dl24 x31 x32).length) d56 d71 (ShortestPlan_v0 m10 dl14 dl24 x31 x32) _ (Rk rd83 (SG.below s84)) (Rk r72 (SG.below s84)) (by omega)) ?_
  rintro e w86 ⟨rfl, b85⟩
  have s87 := SG.of_below s84 b85
  refine ⟨_, rfl, s87, ?_⟩
  apply F.nx
  refine Fq (.bool false) (r_not (b := true) rfl ek rfl) ?_
  refine Fq (.bool false) (r_pick (b := false) rfl ek ek) ?_
  apply F.es
  have x49 := Sk s87 x49 onn
  have c88 := (Sb c80 s87 nkk)
  have rd89 := Rk rd81 (SG.below s87)
  have rd90 := Rk rd82 (SG.below s87)
  have rd91 := Rk rd83 (SG.below s87)
  apply h9
  as_aux_lemma =>
   refine wp_cond_false ek ?_
   apply wp_skip
   apply h7
   refine joinK (fun amj1 aaj1 wlj1 => Kn aaj1 [(0, .slice A n c), (2, .bool false)] 224 ∧ (amj1 = 0) ∧ (Below w.heap.size w wlj1)) ?_ ?_
   ·rintro amj1 aaj1 wlj1 ⟨⟨Uj1, rfl⟩, rfl, c93⟩
    refine wk fun K10 h10 => ?_
    refine W.region_plain (row := none) [(0, false), (1, true), (2, false), (3, false), (4, false), (5, false), (6, false), (7, false), (8, true), (9, true), (10, false), (11, false), (12, false), (13, false)] kk ?_
    have s94 := SG.self wlj1 none
    refine Fv (.slice A n c) ?_
    have z95 := ((Sb c93 s94 nkk)).size
    refine Fc [.slice A n c] (DrawIsPlan_any A n c zs _ (Rk hcode (Sb c93 s94 nkk)) hz (by have h9 := of_decide_eq_false q5; omega)) ?_
    rintro e w130 ⟨m96, A97, n98, c99, dl100, A107, n108, c109, dl110, x117, x118, A119, n120, c121, dl122, rfl, ⟨⟨rd101, fm102, fr106⟩, hsm103⟩, ⟨⟨rd111, fm112, fr116⟩, hsm113⟩, ⟨⟨rd123, fm124, fr128⟩, hsm125⟩, b129⟩
    have s131 := SG.of_below s94 b129
    refine ⟨_, rfl, s131, ?_⟩
    apply F.nx
    have hl104 := rd_pipes_len rd101
    have hsm103m := hsm103.1
    have hsm103n := hsm103.2.1
    have hl114 := rd_valves_len rd111
    have hl126 := rd_ints_len rd123
    refine Fv (.tuple #[.agg #[.int .i64 m96, .slice A97 n98 c99], .slice A107 n108 c109, .int .i64 x117, .int .i64 x118, .slice A119 n120 c121]) ?_
    refine Fq (.agg #[.int .i64 m96, .slice A97 n98 c99]) (r_extract (vs := #[.agg #[.int .i64 m96, .slice A97 n98 c99], .slice A107 n108 c109, .int .i64 x117, .int .i64 x118, .slice A119 n120 c121]) rfl ek kk) ?_
    refine Fq (.slice A107 n108 c109) (r_extract (vs := #[.agg #[.int .i64 m96, .slice A97 n98 c99], .slice A107 n108 c109, .int .i64 x117, .int .i64 x118, .slice A119 n120 c121]) rfl ek kk) ?_
    refine Fq (.int .i64 x117) (r_extract (vs := #[.agg #[.int .i64 m96, .slice A97 n98 c99], .slice A107 n108 c109, .int .i64 x117, .int .i64 x118, .slice A119 n120 c121]) rfl ek kk) ?_
    refine Fq (.int .i64 x118) (r_extract (vs := #[.agg #[.int .i64 m96, .slice A97 n98 c99], .slice A107 n108 c109, .int .i64 x117, .int .i64 x118, .slice A119 n120 c121]) rfl ek kk) ?_
    refine Fq (.slice A119 n120 c121) (r_extract (vs := #[.agg #[.int .i64 m96, .slice A97 n98 c99], .slice A107 n108 c109, .int .i64 x117, .int .i64 x118, .slice A119 n120 c121]) rfl ek kk) ?_
    refine W.sn (fun b => .pointer (some ⟨b, 0, none⟩)) #[.int .i64 0, .slice none 0 0] 26 s131 rfl kk rfl (fun _ => by kernel_rfl) (fun b132 w133 hb134 k135 x136 s137 => ?_)
    apply F.nx
    have lo138 : w.heap.size ≤ b132 := Nl ((Sb c93 s131 nkk)).size (Nat.le_of_eq hb134)
    have sp139 : Sp A97 n98 (some b132) := sp_new rd101 (by have := hb134; omega)
    have sp140 : Sp A107 n108 (some b132) := sp_new rd111 (by have := hb134; omega)
    have sp141 : Sp A119 n120 (some b132) := sp_new rd123 (by have := hb134; omega)
    have rd142 := Rk rd101 k135
    have rd143 := Rk rd111 k135
    have rd144 := Rk rd123 k135
    refine W.ss (v := .agg #[.int .i64 m96, .slice A97 n98 c99]) (j := 0) (news := [.int .i64 m96, .slice A97 n98 c99]) (cs' := #[.int .i64 m96, .slice A97 n98 c99]) s137 rfl kk rfl rfl kk kk x136 kk kk (by simp) kk kk (.inr (Nl (s131).size (Nat.le_of_eq hb134))) (fun w145 g146 x147 s148 => ?_)
    have rd149 := rd_sepG rd142 g146 sp139
    have rd150 := rd_sepG rd143 g146 sp140
    have rd151 := rd_sepG rd144 g146 sp141
    refine Fa (.slice A107 n108 c109) ?_
    refine Fa (.int .i64 x117) ?_
    refine Fa (.int .i64 x118) ?_
    refine Fa (.slice A119 n120 c121) ?_
    apply F.es
    have c152 := (Sb c93 s148 nkk)
    apply h10
    refine wk fun K11 h11 => ?_
    refine wk fun K12 h12 => ?_
    refine W.region_sch (row := none) (Sch.of [(0, false), (1, false), (2, false), (3, false), (4, false), (6, false), (7, false), (8, false), (9, false), (10, false), (5, true), (11, true), (12, false)]) kk kk (fun _ d _ _ _ h => by cases d <;> exact h) kk (fun w153 e154 s155 => ?_)
    refine Fq (.agg #[.int .i64 m96, .slice A97 n98 c99]) (r_load2 rfl ek kk kk (sgS (blk_cell (j := 0) x147 kk) onn) (sgS (blk_cell (j := 1) x147 kk) onn)) ?_
    refine Fv (.slice A107 n108 c109) ?_
    refine Fv (.int .i64 x117) ?_
    refine Fv (.int .i64 x118) ?_
    refine Fv (.slice A119 n120 c121) ?_
    refine Fq (.agg #[.int .i64 m96, .slice A97 n98 c99]) (r_load2 rfl ek kk kk (sgS (blk_cell (j := 0) x147 kk) onn) (sgS (blk_cell (j := 1) x147 kk) onn)) ?_
    refine Fv (.slice A107 n108 c109) ?_
    refine Fv (.int .i64 x117) ?_
    refine Fv (.int .i64 x118) ?_
    refine Fv (.slice A119 n120 c121) ?_
    refine Fc [.agg #[.int .i64 m96, .slice A97 n98 c99], .slice A107 n108 c109, .int .i64 x117, .int .i64 x118, .slice A119 n120 c121] (IsPlan_impl m96 A97 n98 c99 dl100 A107 n108 c109 dl110 x117 x118 A119 n120 c121 dl122 w153 (Rk rd149 (SG.below s155)) (Rk rd150 (SG.below s155)) (Rk rd151 (SG.below s155)) (by omega) (by omega) (by omega) fm102 fm112 fm124) ?_
    rintro e w157 ⟨rfl, b156⟩
    have s158 := SG.of_below s155 b156
    refine ⟨_, rfl, s158, ?_⟩
    apply F.nx
    rcases Bool.eq_false_or_eq_true (IsPlan_v0 m96 dl100 dl110 x117 x118 dl122) with q159 | q159
    ·rw [q159]
     refine Fc [.agg #[.int .i64 m96, .slice A97 n98 c99], .slice A107 n108 c109, .int .i64 x117, .int .i64 x118, .slice A119 n120 c121] (IsPlan_spec m96 A97 n98 c99 dl100 A107 n108 c109 dl110 x117 x118 A119 n120 c121 dl122 w157 (Rk rd149 (SG.below s158)) (Rk rd150 (SG.below s158)) (Rk rd151 (SG.below s158)) (by omega) (by omega) (by omega) fm102 fm112 fm124) ?_
     rintro e w161 ⟨rfl, b160⟩
     have s162 := SG.of_below s158 b160
     refine ⟨_, rfl, s162, ?_⟩
     apply F.nx
     rw [q159]
     refine Fq (.bool false) (r_neqB (m := true) (n := true) rfl ek ek kk rfl) ?_
     apply F.es
     have x147 := Sk s162 x147 onn
     have c164 := (Sb c152 s162 nkk)
     apply h12
     as_aux_lemma =>
      refine wp_cond_false ek ?_
      apply wp_skip
      apply h11
      refine wk fun K13 h13 => ?_
      refine W.region_plain (row := none) [(0, false), (1, true), (2, false), (3, false), (4, false), (5, false), (6, true), (7, true), (8, false), (9, false)] kk ?_
      have s168 := SG.self w161 none
      refine Fv (.slice A n c) ?_
      have lb170 := (Nat.lt_of_lt_of_le (blk_lt x147) (s168).size)
      have z169 := ((Sb c164 s168 nkk)).size
      refine Fc [.slice A n c] (DrawHopelessPipes_any A n c zs _ (Rk hcode (Sb c164 s168 nkk)) hz (by have h9 := of_decide_eq_false q5; omega)) ?_
      rintro e w194 ⟨m171, A172, n173, c174, dl175, A182, n183, c184, dl185, x192, rfl, ⟨⟨rd176, fm177, fr181⟩, hsm178⟩, ⟨⟨rd186, fm187, fr191⟩, hsm188⟩, b193⟩
      have s195 := SG.of_below s168 b193
      refine ⟨_, rfl, s195, ?_⟩
      apply F.nx
      have hl179 := rd_pipes_len rd176
      have hsm178m := hsm178.1
      have hsm178n := hsm178.2.1
      have hl189 := rd_valves_len rd186
      refine Fv (.tuple #[.agg #[.int .i64 m171, .slice A172 n173 c174], .slice A182 n183 c184, .int .i64 x192]) ?_
      refine Fq (.agg #[.int .i64 m171, .slice A172 n173 c174]) (r_extract (vs := #[.agg #[.int .i64 m171, .slice A172 n173 c174], .slice A182 n183 c184, .int .i64 x192]) rfl ek kk) ?_
      refine Fq (.slice A182 n183 c184) (r_extract (vs := #[.agg #[.int .i64 m171, .slice A172 n173 c174], .slice A182 n183 c184, .int .i64 x192]) rfl ek kk) ?_
      refine Fq (.int .i64 x192) (r_extract (vs := #[.agg #[.int .i64 m171, .slice A172 n173 c174], .slice A182 n183 c184, .int .i64 x192]) rfl ek kk) ?_
      refine W.sn (fun b => .pointer (some ⟨b, 0, none⟩)) #[.int .i64 0, .slice none 0 0] 26 s195 rfl kk rfl (fun _ => by kernel_rfl) (fun b198 w199 hb200 k201 x202 s203 => ?_)
      apply F.nx
      have lo204 : w.heap.size ≤ b198 := Nl ((Sb c164 s195 nkk)).size (Nat.le_of_eq hb200)
      have sp208 : Sp A172 n173 (some b198) := sp_new rd176 (by have := hb200; omega)
      have sp209 : Sp A182 n183 (some b198) := sp_new rd186 (by have := hb200; omega)
      have rd211 := Rk rd176 k201
      have rd212 := Rk rd186 k201
      refine W.ss (v := .agg #[.int .i64 m171, .slice A172 n173 c174]) (j := 0) (news := [.int .i64 m171, .slice A172 n173 c174]) (cs' := #[.int .i64 m171, .slice A172 n173 c174]) s203 rfl kk rfl rfl kk kk x202 kk kk (by simp) kk kk (.inr (Nl (s195).size (Nat.le_of_eq hb200))) (fun w213 g214 x215 s216 => ?_)
      have rd217 := rd_sepG rd211 g214 sp208
      have rd218 := rd_sepG rd212 g214 sp209
      refine Fa (.slice A182 n183 c184) ?_
      refine Fa (.int .i64 x192) ?_
      apply F.es
      have x147 := Sk s216 x147 onn
      have c219 := (Sb c164 s216 nkk)
      apply h13
      refine wk fun K14 h14 => ?_
      refine W.region_plain (row := none) [(0, false), (1, false), (2, false), (3, true), (4, false), (5, false), (6, false), (7, false), (8, false)] kk ?_
      have s223 := SG.self w213 none
      refine Fq (.agg #[.int .i64 m171, .slice A172 n173 c174]) (r_load2 rfl ek kk kk (sgS (blk_cell (j := 0) x215 kk) onn) (sgS (blk_cell (j := 1) x215 kk) onn)) ?_
      refine Fv (.slice A182 n183 c184) ?_
      refine Fv (.int .i64 x192) ?_
      refine Fc [.agg #[.int .i64 m171, .slice A172 n173 c174], .slice A182 n183 c184, .int .i64 x192] (HopelessPipes_impl m171 A172 n173 c174 dl175 A182 n183 c184 dl185 x192 w213 (Rk rd217 (SG.below s223)) (Rk rd218 (SG.below s223)) (by omega) (by omega) fm177 fm187) ?_
      rintro e w232 ⟨A224, d225, rfl, r226, b231⟩
      have s233 := SG.of_below s223 b231
      refine ⟨_, rfl, s233, ?_⟩
      apply F.nx
      have rd227 := own_rd r226
      have hl229 : (HopelessPipes_v0 m171 dl175 dl185 x192).length = (HopelessPipes_v0 m171 dl175 dl185 x192).length := rfl
      have hb234 := HopelessPipes_len m171 dl175 dl185 x192
      refine Fv (.tuple #[.slice A224 ((HopelessPipes_v0 m171 dl175 dl185 x192).length) d225, .bool (HopelessPipes_v1 m171 dl175 dl185 x192)]) ?_
      refine Fq (.slice A224 ((HopelessPipes_v0 m171 dl175 dl185 x192).length) d225) (r_extract (vs := #[.slice A224 ((HopelessPipes_v0 m171 dl175 dl185 x192).length) d225, .bool (HopelessPipes_v1 m171 dl175 dl185 x192)]) rfl ek kk) ?_
      refine Fq (.bool (HopelessPipes_v1 m171 dl175 dl185 x192)) (r_extract (vs := #[.slice A224 ((HopelessPipes_v0 m171 dl175 dl185 x192).length) d225, .bool (HopelessPipes_v1 m171 dl175 dl185 x192)]) rfl ek kk) ?_
      refine Fa (.slice A224 ((HopelessPipes_v0 m171 dl175 dl185 x192).length) d225) ?_
      refine Fa (.bool (HopelessPipes_v1 m171 dl175 dl185 x192)) ?_
      apply F.es
      have x147 := Sk s233 x147 onn
      have x215 := Sk s233 x215 onn
      have c235 := (Sb c219 s233 nkk)
      have rd239 := Rk rd217 (SG.below s233)
      have rd240 := Rk rd218 (SG.below s233)
      apply h14
      as_aux_lemma =>
       refine wk fun K15 h15 => ?_
       refine wk fun K16 h16 => ?_
       refine W.region_plain (row := none) [(0, false), (1, false), (2, false), (3, true), (4, false), (5, false), (6, false), (7, false), (8, false)] kk ?_
       have s241 := SG.self w232 none
       refine Fq (.agg #[.int .i64 m171, .slice A172 n173 c174]) (r_load2 rfl ek kk kk (sgS (blk_cell (j := 0) x215 kk) onn) (sgS (blk_cell (j := 1) x215 kk) onn)) ?_
       refine Fv (.slice A182 n183 c184) ?_
       refine Fv (.int .i64 x192) ?_
       refine Fc [.agg #[.int .i64 m171, .slice A172 n173 c174], .slice A182 n183 c184, .int .i64 x192] (HopelessPipes_spec m171 A172 n173 c174 dl175 A182 n183 c184 dl185 x192 w232 (Rk rd239 (SG.below s241)) (Rk rd240 (SG.below s241)) (by omega) (by omega) fm177 fm187) ?_
       rintro e w250 ⟨A242, d243, rfl, r244, b249⟩
       have s251 := SG.of_below s241 b249
       refine ⟨_, rfl, s251, ?_⟩
       apply F.nx
       have hl247 : (HopelessPipes_v0 m171 dl175 dl185 x192).length = (HopelessPipes_v0 m171 dl175 dl185 x192).length := rfl
       refine Fv (.tuple #[.slice A242 ((HopelessPipes_v0 m171 dl175 dl185 x192).length) d243, .bool (HopelessPipes_v1 m171 dl175 dl185 x192)]) ?_
       refine Fq (.slice A242 ((HopelessPipes_v0 m171 dl175 dl185 x192).length) d243) (r_extract (vs := #[.slice A242 ((HopelessPipes_v0 m171 dl175 dl185 x192).length) d243, .bool (HopelessPipes_v1 m171 dl175 dl185 x192)]) rfl ek kk) ?_
       refine Fq (.bool (HopelessPipes_v1 m171 dl175 dl185 x192)) (r_extract (vs := #[.slice A242 ((HopelessPipes_v0 m171 dl175 dl185 x192).length) d243, .bool (HopelessPipes_v1 m171 dl175 dl185 x192)]) rfl ek kk) ?_
       refine Fa (.slice A242 ((HopelessPipes_v0 m171 dl175 dl185 x192).length) d243) ?_
       refine Fa (.bool (HopelessPipes_v1 m171 dl175 dl185 x192)) ?_
       apply F.es
       have x147 := Sk s251 x147 onn
       have x215 := Sk s251 x215 onn
       have c252 := (Sb c235 s251 nkk)
       have rd256 := Rk rd239 (SG.below s251)
       have rd257 := Rk rd240 (SG.below s251)
       have rd258 := Rk rd227 (SG.below s251)
       apply h16
       refine wk fun K17 h17 => ?_
       refine W.region_plain (row := none) [(0, false), (1, false), (2, false), (3, false), (4, false), (5, false), (6, true), (7, false), (8, false)] kk ?_
       have s259 := SG.self w250 none
       refine Fv (.bool (HopelessPipes_v1 m171 dl175 dl185 x192)) ?_
       refine Fv (.bool (HopelessPipes_v1 m171 dl175 dl185 x192)) ?_
       refine Fq (.bool false) (r_neqB (m := (HopelessPipes_v1 m171 dl175 dl185 x192)) (n := (HopelessPipes_v1 m171 dl175 dl185 x192)) rfl ek ek kk (by rw [show ((HopelessPipes_v1 m171 dl175 dl185 x192) == (HopelessPipes_v1 m171 dl175 dl185 x192)) = true from beq_iff_eq.2 rfl]; try rfl)) ?_
       refine Fv (.bool false) ?_
       refine Fv (.slice A224 ((HopelessPipes_v0 m171 dl175 dl185 x192).length) d225) ?_
       refine Fv (.slice A242 ((HopelessPipes_v0 m171 dl175 dl185 x192).length) d243) ?_
       refine Fc [.slice A224 ((HopelessPipes_v0 m171 dl175 dl185 x192).length) d225, .slice A242 ((HopelessPipes_v0 m171 dl175 dl185 x192).length) d243] (vInts_same A224 A242 ((HopelessPipes_v0 m171 dl175 dl185 x192).length) d225 d243 (HopelessPipes_v0 m171 dl175 dl185 x192) _ (Rk rd258 (SG.below s259)) (Rk r244 (SG.below s259)) (by omega)) ?_
       rintro e w261 ⟨rfl, b260⟩
       have s262 := SG.of_below s259 b260
       refine ⟨_, rfl, s262, ?_⟩
       apply F.nx
       refine Fq (.bool false) (r_not (b := true) rfl ek rfl) ?_
       refine Fq (.bool false) (r_pick (b := false) rfl ek ek) ?_
       apply F.es
       have x147 := Sk s262 x147 onn
       have x215 := Sk s262 x215 onn
       have c263 := (Sb c252 s262 nkk)
       have rd267 := Rk rd256 (SG.below s262)
       have rd268 := Rk rd257 (SG.below s262)
       have rd269 := Rk rd258 (SG.below s262)
       apply h17
       refine wp_cond_false ek ?_
       apply wp_skip
       apply h15
       refine joinK (fun amj2 aaj2 wlj2 => Kn aaj2 [(0, .slice A n c), (2, .bool false)] 224 ∧ (amj2 = 0) ∧ (Below w.heap.size w wlj2)) ?_ ?_
       ·rintro amj2 aaj2 wlj2 ⟨⟨Uj2, rfl⟩, rfl, c271⟩
        refine wk fun K18 h18 => ?_
        refine W.region_plain (row := none) [(0, false), (1, true), (2, false), (3, false), (4, false), (5, false), (6, false), (7, true), (8, true), (9, false), (10, false), (11, false)] kk ?_
        have s272 := SG.self wlj2 none
        refine Fv (.slice A n c) ?_
        have z273 := ((Sb c271 s272 nkk)).size
        refine Fc [.slice A n c] (DrawSegmentPlan_any A n c zs _ (Rk hcode (Sb c271 s272 nkk)) hz (by have h9 := of_decide_eq_false q5; omega)) ?_
        rintro e w298 ⟨m274, A275, n276, c277, dl278, A285, n286, c287, dl288, x295, x296, rfl, ⟨⟨rd279, fm280, fr284⟩, hsm281⟩, ⟨⟨rd289, fm290, fr294⟩, hsm291⟩, b297⟩
        have s299 := SG.of_below s272 b297
        refine ⟨_, rfl, s299, ?_⟩
        apply F.nx
        have hl282 := rd_pipes_len rd279
        have hsm281m := hsm281.1
        have hsm281n := hsm281.2.1
        have hl292 := rd_valves_len rd289
        refine Fv (.tuple #[.agg #[.int .i64 m274, .slice A275 n276 c277], .slice A285 n286 c287, .int .i64 x295, .int .i64 x296]) ?_
        refine Fq (.agg #[.int .i64 m274, .slice A275 n276 c277]) (r_extract (vs := #[.agg #[.int .i64 m274, .slice A275 n276 c277], .slice A285 n286 c287, .int .i64 x295, .int .i64 x296]) rfl ek kk) ?_
        refine Fq (.slice A285 n286 c287) (r_extract (vs := #[.agg #[.int .i64 m274, .slice A275 n276 c277], .slice A285 n286 c287, .int .i64 x295, .int .i64 x296]) rfl ek kk) ?_
        refine Fq (.int .i64 x295) (r_extract (vs := #[.agg #[.int .i64 m274, .slice A275 n276 c277], .slice A285 n286 c287, .int .i64 x295, .int .i64 x296]) rfl ek kk) ?_
        refine Fq (.int .i64 x296) (r_extract (vs := #[.agg #[.int .i64 m274, .slice A275 n276 c277], .slice A285 n286 c287, .int .i64 x295, .int .i64 x296]) rfl ek kk) ?_
        refine W.sn (fun b => .pointer (some ⟨b, 0, none⟩)) #[.int .i64 0, .slice none 0 0] 26 s299 rfl kk rfl (fun _ => by kernel_rfl) (fun b300 w301 hb302 k303 x304 s305 => ?_)
        apply F.nx
        have lo306 : w.heap.size ≤ b300 := Nl ((Sb c271 s299 nkk)).size (Nat.le_of_eq hb302)
        have sp307 : Sp A275 n276 (some b300) := sp_new rd279 (by have := hb302; omega)
        have sp308 : Sp A285 n286 (some b300) := sp_new rd289 (by have := hb302; omega)
        have rd309 := Rk rd279 k303
        have rd310 := Rk rd289 k303
        refine W.ss (v := .agg #[.int .i64 m274, .slice A275 n276 c277]) (j := 0) (news := [.int .i64 m274, .slice A275 n276 c277]) (cs' := #[.int .i64 m274, .slice A275 n276 c277]) s305 rfl kk rfl rfl kk kk x304 kk kk (by simp) kk kk (.inr (Nl (s299).size (Nat.le_of_eq hb302))) (fun w311 g312 x313 s314 => ?_)
        have rd315 := rd_sepG rd309 g312 sp307
        have rd316 := rd_sepG rd310 g312 sp308
        refine Fa (.slice A285 n286 c287) ?_
        refine Fa (.int .i64 x295) ?_
        refine Fa (.int .i64 x296) ?_
        apply F.es
        have c317 := (Sb c271 s314 nkk)
        apply h18
        as_aux_lemma =>
         refine wk fun K19 h19 => ?_
         refine W.region_plain (row := none) [(0, false), (1, false), (2, false), (3, false), (4, true), (5, false), (6, false), (7, false), (8, false), (9, false)] kk ?_
         have s318 := SG.self w311 none
         refine Fq (.agg #[.int .i64 m274, .slice A275 n276 c277]) (r_load2 rfl ek kk kk (sgS (blk_cell (j := 0) x313 kk) onn) (sgS (blk_cell (j := 1) x313 kk) onn)) ?_
         refine Fv (.slice A285 n286 c287) ?_
         refine Fv (.int .i64 x295) ?_
         refine Fv (.int .i64 x296) ?_
         refine Fc [.agg #[.int .i64 m274, .slice A275 n276 c277], .slice A285 n286 c287, .int .i64 x295, .int .i64 x296] (SegmentPlan_impl m274 A275 n276 c277 dl278 A285 n286 c287 dl288 x295 x296 w311 (Rk rd315 (SG.below s318)) (Rk rd316 (SG.below s318)) (by omega) (by omega) fm280 fm290) ?_
         rintro e w327 ⟨A319, d320, rfl, r321, b326⟩
         have s328 := SG.of_below s318 b326
         refine ⟨_, rfl, s328, ?_⟩
         apply F.nx
         have rd322 := own_rd r321
         have hl324 : (SegmentPlan_v0 m274 dl278 dl288 x295 x296).length = (SegmentPlan_v0 m274 dl278 dl288 x295 x296).length := rfl
         have hb329 := SegmentPlan_len m274 dl278 dl288 x295 x296
         refine Fv (.tuple #[.slice A319 ((SegmentPlan_v0 m274 dl278 dl288 x295 x296).length) d320, .bool (SegmentPlan_v1 m274 dl278 dl288 x295 x296)]) ?_
         refine Fq (.slice A319 ((SegmentPlan_v0 m274 dl278 dl288 x295 x296).length) d320) (r_extract (vs := #[.slice A319 ((SegmentPlan_v0 m274 dl278 dl288 x295 x296).length) d320, .bool (SegmentPlan_v1 m274 dl278 dl288 x295 x296)]) rfl ek kk) ?_
         refine Fq (.bool (SegmentPlan_v1 m274 dl278 dl288 x295 x296)) (r_extract (vs := #[.slice A319 ((SegmentPlan_v0 m274 dl278 dl288 x295 x296).length) d320, .bool (SegmentPlan_v1 m274 dl278 dl288 x295 x296)]) rfl ek kk) ?_
         refine Fa (.slice A319 ((SegmentPlan_v0 m274 dl278 dl288 x295 x296).length) d320) ?_
         refine Fa (.bool (SegmentPlan_v1 m274 dl278 dl288 x295 x296)) ?_
         apply F.es
         have x313 := Sk s328 x313 onn
         have c330 := (Sb c317 s328 nkk)
         have rd331 := Rk rd315 (SG.below s328)
         have rd332 := Rk rd316 (SG.below s328)
         apply h19
         refine wk fun K20 h20 => ?_
         refine W.region_plain (row := none) [(0, false), (1, false), (2, false), (3, false), (4, true), (5, false), (6, false), (7, false), (8, false), (9, false)] kk ?_
         have s333 := SG.self w327 none
         refine Fq (.agg #[.int .i64 m274, .slice A275 n276 c277]) (r_load2 rfl ek kk kk (sgS (blk_cell (j := 0) x313 kk) onn) (sgS (blk_cell (j := 1) x313 kk) onn)) ?_
         refine Fv (.slice A285 n286 c287) ?_
         refine Fv (.int .i64 x295) ?_
         refine Fv (.int .i64 x296) ?_
         refine Fc [.agg #[.int .i64 m274, .slice A275 n276 c277], .slice A285 n286 c287, .int .i64 x295, .int .i64 x296] (SegmentPlan_spec m274 A275 n276 c277 dl278 A285 n286 c287 dl288 x295 x296 w327 (Rk rd331 (SG.below s333)) (Rk rd332 (SG.below s333)) (by omega) (by omega) fm280 fm290) ?_
         rintro e w342 ⟨A334, d335, rfl, r336, b341⟩
         have s343 := SG.of_below s333 b341
         refine ⟨_, rfl, s343, ?_⟩
         apply F.nx
         have hl339 : (SegmentPlan_v0 m274 dl278 dl288 x295 x296).length = (SegmentPlan_v0 m274 dl278 dl288 x295 x296).length := rfl
         refine Fv (.tuple #[.slice A334 ((SegmentPlan_v0 m274 dl278 dl288 x295 x296).length) d335, .bool (SegmentPlan_v1 m274 dl278 dl288 x295 x296)]) ?_
         refine Fq (.slice A334 ((SegmentPlan_v0 m274 dl278 dl288 x295 x296).length) d335) (r_extract (vs := #[.slice A334 ((SegmentPlan_v0 m274 dl278 dl288 x295 x296).length) d335, .bool (SegmentPlan_v1 m274 dl278 dl288 x295 x296)]) rfl ek kk) ?_
         refine Fq (.bool (SegmentPlan_v1 m274 dl278 dl288 x295 x296)) (r_extract (vs := #[.slice A334 ((SegmentPlan_v0 m274 dl278 dl288 x295 x296).length) d335, .bool (SegmentPlan_v1 m274 dl278 dl288 x295 x296)]) rfl ek kk) ?_
         refine Fa (.slice A334 ((SegmentPlan_v0 m274 dl278 dl288 x295 x296).length) d335) ?_
         refine Fa (.bool (SegmentPlan_v1 m274 dl278 dl288 x295 x296)) ?_
         apply F.es
         have c344 := (Sb c330 s343 nkk)
         have rd347 := Rk rd322 (SG.below s343)
         apply h20
         refine wk fun K21 h21 => ?_
         refine W.region_plain (row := none) [(0, false), (1, false), (2, false), (3, false), (4, false), (5, false), (6, true), (7, false), (8, false)] kk ?_
         have s348 := SG.self w342 none
         refine Fv (.bool (SegmentPlan_v1 m274 dl278 dl288 x295 x296)) ?_
         refine Fv (.bool (SegmentPlan_v1 m274 dl278 dl288 x295 x296)) ?_
         refine Fq (.bool true) (r_eqlB (m := (SegmentPlan_v1 m274 dl278 dl288 x295 x296)) (n := (SegmentPlan_v1 m274 dl278 dl288 x295 x296)) rfl ek ek kk (beq_iff_eq.2 rfl)) ?_
         refine Fv (.bool true) ?_
         refine Fv (.slice A319 ((SegmentPlan_v0 m274 dl278 dl288 x295 x296).length) d320) ?_
         refine Fv (.slice A334 ((SegmentPlan_v0 m274 dl278 dl288 x295 x296).length) d335) ?_
         refine Fc [.slice A319 ((SegmentPlan_v0 m274 dl278 dl288 x295 x296).length) d320, .slice A334 ((SegmentPlan_v0 m274 dl278 dl288 x295 x296).length) d335] (vInts_same A319 A334 ((SegmentPlan_v0 m274 dl278 dl288 x295 x296).length) d320 d335 (SegmentPlan_v0 m274 dl278 dl288 x295 x296) _ (Rk rd347 (SG.below s348)) (Rk r336 (SG.below s348)) (by omega)) ?_
         rintro e w350 ⟨rfl, b349⟩
         have s351 := SG.of_below s348 b349
         refine ⟨_, rfl, s351, ?_⟩
         apply F.nx
         refine Fq (.bool true) (r_pick (b := true) rfl ek ek) ?_
         refine Fa (.bool true) ?_
         apply F.es
         have c352 := (Sb c344 s351 nkk)
         apply h21
         as_aux_lemma =>
          refine wp_ret ?_
          try simp only [Exit.then]
          refine ret1 (v := .bool true) rfl kk ?_
          exact ⟨rfl, c352⟩
       intro K22 h22
       refine wk fun K23 h23 => ?_
       refine Rq 7 ?_
       refine Fv (.bool (HopelessPipes_v1 m171 dl175 dl185 x192)) ?_
       refine Fv (.bool (HopelessPipes_v1 m171 dl175 dl185 x192)) ?_
       rcases Bool.eq_false_or_eq_true (HopelessPipes_v1 m171 dl175 dl185 x192) with q357 | q357
       ·rw [q357]
        refine Fq (.pointer (some ⟨b198, 1, none⟩)) (r_field (k := 1) rfl ek kk) ?_
        refine Fl (.slice A172 n173 c174) (eqS (blk_cell (j := 1) x215 kk)) ?_
        refine Fq (.int .i64 (n173 : Int)) (r_len (A := A172) (n := n173) (c := c174) rfl ek kk) ?_
        by_cases q358 : ((n173 : Int) : Int) > (0 : Int)
        ·refine Fq (.bool true) (r_gtr (m := (n173 : Int)) (n := 0) rfl ek ek (dt q358)) ?_
         refine Fq (.bool true) (r_pick (b := true) rfl ek ek) ?_
         apply F.es
         apply h23
         refine wp_cond_true ek ?_
         refine wk fun K24 h24 => ?_
         refine Rq 6 ?_
         refine Fq (.pointer (some ⟨b198, 1, none⟩)) (r_field (k := 1) rfl ek kk) ?_
         refine Fl (.slice A172 n173 c174) (eqS (blk_cell (j := 1) x215 kk)) ?_
         obtain ⟨x359, hx360⟩ := get_of (zs := dl175) (k := 0) (by have := hl179; omega)
         obtain ⟨b361, o362, hA363, hb364, hc365, hc366, hc367, hc368⟩ := Rd.elPipe rd267 hx360
         refine Fq (.pointer (some ⟨b361, o362 + 0 * 4, none⟩)) (r_idx (n := n173) (c := c174) (k := 0) rfl ek hA363 kk kk (by have := hl179; omega)) ?_
         refine Fq (.pointer (some ⟨b361, o362 + 0 * 4, none⟩)) (r_field0 rfl ek kk) ?_
         refine Fl (.int .i64 x359.id) (eqS hc365) ?_
         refine Fa (.int .i64 x359.id) ?_
         apply F.es
         apply h24
         refine wk fun K25 h25 => ?_
         refine W.region_plain (row := none) [(0, false), (1, false), (2, false), (3, false), (4, true), (5, false), (6, false), (7, false), (8, false), (9, false)] kk ?_
         have s369 := SG.self w261 none
         refine Fq (.agg #[.int .i64 m171, .slice A172 n173 c174]) (r_load2 rfl ek kk kk (sgS (blk_cell (j := 0) x215 kk) onn) (sgS (blk_cell (j := 1) x215 kk) onn)) ?_
         refine Fv (.slice A182 n183 c184) ?_
         refine Fv (.int .i64 x192) ?_
         refine Fv (.int .i64 x359.id) ?_
         refine Fc [.agg #[.int .i64 m171, .slice A172 n173 c174], .slice A182 n183 c184, .int .i64 x192, .int .i64 x359.id] (ShortestPlan_impl m171 A172 n173 c174 dl175 A182 n183 c184 dl185 x192 x359.id w261 (Rk rd267 (SG.below s369)) (Rk rd268 (SG.below s369)) (by omega) (by omega) fm177 fm187) ?_
         rintro e w378 ⟨A370, d371, rfl, r372, b377⟩
         have s379 := SG.of_below s369 b377
         refine ⟨_, rfl, s379, ?_⟩
         apply F.nx
         have hl375 : (ShortestPlan_v0 m171 dl175 dl185 x192 x359.id).length = (ShortestPlan_v0 m171 dl175 dl185 x192 x359.id).length := rfl
         have hb380 := ShortestPlan_len m171 dl175 dl185 x192 x359.id
         rcases Bool.eq_false_or_eq_true (ShortestPlan_v1 m171 dl175 dl185 x192 x359.id) with q381 | q381
         ·rw [q381]
          refine Fv (.tuple #[.slice A370 ((ShortestPlan_v0 m171 dl175 dl185 x192 x359.id).length) d371, .bool true]) ?_
          refine Fq (.slice A370 ((ShortestPlan_v0 m171 dl175 dl185 x192 x359.id).length) d371) (r_extract (vs := #[.slice A370 ((ShortestPlan_v0 m171 dl175 dl185 x192 x359.id).length) d371, .bool true]) rfl ek kk) ?_
          refine Fq (.bool true) (r_extract (vs := #[.slice A370 ((ShortestPlan_v0 m171 dl175 dl185 x192 x359.id).length) d371, .bool true]) rfl ek kk) ?_
          refine Fa (.slice A370 ((ShortestPlan_v0 m171 dl175 dl185 x192 x359.id).length) d371) ?_
          refine Fa (.bool true) ?_
          apply F.es
          have x147 := Sk s379 x147 onn
          have c382 := (Sb c263 s379 nkk)
          have rd388 := Rk rd269 (SG.below s379)
          apply h25
          as_aux_lemma =>
           refine wk fun K26 h26 => ?_
           refine W.region_plain (row := none) [(0, false), (1, false), (2, false), (3, true), (4, false)] kk ?_
           have s390 := SG.self w378 none
           refine Fv (.bool true) ?_
           refine Fv (.slice A224 ((HopelessPipes_v0 m171 dl175 dl185 x192).length) d225) ?_
           refine Fv (.int .i64 x359.id) ?_
           refine Fc [.slice A224 ((HopelessPipes_v0 m171 dl175 dl185 x192).length) d225, .int .i64 x359.id] (vHas_any A224 ((HopelessPipes_v0 m171 dl175 dl185 x192).length) d225 (HopelessPipes_v0 m171 dl175 dl185 x192) x359.id _ (Rk rd388 (SG.below s390)) (by omega)) ?_
           rintro e w392 ⟨rfl, b391⟩
           have s393 := SG.of_below s390 b391
           refine ⟨_, rfl, s393, ?_⟩
           apply F.nx
           have q394 : ((HopelessPipes_v0 m171 dl175 dl185 x192).contains x359.id) = false := (hope_iff q357 (List.mem_of_getElem? hx360)).trans (by rw [q381]; try rfl)
           rw [q394]
           refine Fq (.bool false) (r_eqlB (m := true) (n := false) rfl ek ek kk rfl) ?_
           apply F.es
           have x147 := Sk s393 x147 onn
           have c395 := (Sb c382 s393 nkk)
           apply h26
           refine wp_cond_false ek ?_
           apply wp_skip
           exact h22 _ _ _ ⟨Kn.of, rfl, c395⟩
         rw [q381]
         refine Fv (.tuple #[.slice A370 ((ShortestPlan_v0 m171 dl175 dl185 x192 x359.id).length) d371, .bool false]) ?_
         refine Fq (.slice A370 ((ShortestPlan_v0 m171 dl175 dl185 x192 x359.id).length) d371) (r_extract (vs := #[.slice A370 ((ShortestPlan_v0 m171 dl175 dl185 x192 x359.id).length) d371, .bool false]) rfl ek kk) ?_
         refine Fq (.bool false) (r_extract (vs := #[.slice A370 ((ShortestPlan_v0 m171 dl175 dl185 x192 x359.id).length) d371, .bool false]) rfl ek kk) ?_
         refine Fa (.slice A370 ((ShortestPlan_v0 m171 dl175 dl185 x192 x359.id).length) d371) ?_
         refine Fa (.bool false) ?_
         apply F.es
         have x147 := Sk s379 x147 onn
         have c404 := (Sb c263 s379 nkk)
         have rd410 := Rk rd269 (SG.below s379)
         apply h25
         refine wk fun K27 h27 => ?_
         refine W.region_plain (row := none) [(0, false), (1, false), (2, false), (3, true), (4, false)] kk ?_
         have s412 := SG.self w378 none
         refine Fv (.bool false) ?_
         refine Fv (.slice A224 ((HopelessPipes_v0 m171 dl175 dl185 x192).length) d225) ?_
         refine Fv (.int .i64 x359.id) ?_
         refine Fc [.slice A224 ((HopelessPipes_v0 m171 dl175 dl185 x192).length) d225, .int .i64 x359.id] (vHas_any A224 ((HopelessPipes_v0 m171 dl175 dl185 x192).length) d225 (HopelessPipes_v0 m171 dl175 dl185 x192) x359.id _ (Rk rd410 (SG.below s412)) (by omega)) ?_
         rintro e w414 ⟨rfl, b413⟩
         have s415 := SG.of_below s412 b413
         refine ⟨_, rfl, s415, ?_⟩
         apply F.nx
         have q416 : ((HopelessPipes_v0 m171 dl175 dl185 x192).contains x359.id) = true := (hope_iff q357 (List.mem_of_getElem? hx360)).trans (by rw [q381]; try rfl)
         rw [q416]
         refine Fq (.bool false) (r_eqlB (m := false) (n := true) rfl ek ek kk rfl) ?_
         apply F.es
         have x147 := Sk s415 x147 onn
         have c417 := (Sb c404 s415 nkk)
         apply h27
         as_aux_lemma =>
          refine wp_cond_false ek ?_
          apply wp_skip
          exact h22 _ _ _ ⟨Kn.of, rfl, c417⟩
        refine Fq (.bool false) (r_gtr (m := (n173 : Int)) (n := 0) rfl ek ek (df q358)) ?_
        refine Fq (.bool false) (r_pick (b := true) rfl ek ek) ?_
        apply F.es
        apply h23
        refine wp_cond_false ek ?_
        apply wp_skip
        exact h22 _ _ _ ⟨Kn.of, rfl, c263⟩
       rw [q357]
       refine Fs rfl ?_
       refine Fs rfl ?_
       refine Fs rfl ?_
       refine Fs rfl ?_
       refine Fq (.bool false) (r_pick (b := false) rfl ek ek) ?_
       apply F.es
       apply h23
       refine wp_cond_false ek ?_
       apply wp_skip
       exact h22 _ _ _ ⟨Kn.of, rfl, c263⟩
    rw [q159]
    refine Fc [.agg #[.int .i64 m96, .slice A97 n98 c99], .slice A107 n108 c109, .int .i64 x117, .int .i64 x118, .slice A119 n120 c121] (IsPlan_spec m96 A97 n98 c99 dl100 A107 n108 c109 dl110 x117 x118 A119 n120 c121 dl122 w157 (Rk rd149 (SG.below s158)) (Rk rd150 (SG.below s158)) (Rk rd151 (SG.below s158)) (by omega) (by omega) (by omega) fm102 fm112 fm124) ?_
    rintro e w427 ⟨rfl, b426⟩
    have s428 := SG.of_below s158 b426
    refine ⟨_, rfl, s428, ?_⟩
    apply F.nx
    rw [q159]
    refine Fq (.bool false) (r_neqB (m := false) (n := false) rfl ek ek kk rfl) ?_
    apply F.es
    have x147 := Sk s428 x147 onn
    have c430 := (Sb c152 s428 nkk)
    apply h12
    refine wp_cond_false ek ?_
    apply wp_skip
    apply h11
    refine wk fun K28 h28 => ?_
    refine W.region_plain (row := none) [(0, false), (1, true), (2, false), (3, false), (4, false), (5, false), (6, true), (7, true), (8, false), (9, false)] kk ?_
    have s434 := SG.self w427 none
    refine Fv (.slice A n c) ?_
    have lb436 := (Nat.lt_of_lt_of_le (blk_lt x147) (s434).size)
    have z435 := ((Sb c430 s434 nkk)).size
    refine Fc [.slice A n c] (DrawHopelessPipes_any A n c zs _ (Rk hcode (Sb c430 s434 nkk)) hz (by have h9 := of_decide_eq_false q5; omega)) ?_
    rintro e w460 ⟨m437, A438, n439, c440, dl441, A448, n449, c450, dl451, x458, rfl, ⟨⟨rd442, fm443, fr447⟩, hsm444⟩, ⟨⟨rd452, fm453, fr457⟩, hsm454⟩, b459⟩
    have s461 := SG.of_below s434 b459
    refine ⟨_, rfl, s461, ?_⟩
    apply F.nx
    have hl445 := rd_pipes_len rd442
    have hsm444m := hsm444.1
    have hsm444n := hsm444.2.1
    have hl455 := rd_valves_len rd452
    refine Fv (.tuple #[.agg #[.int .i64 m437, .slice A438 n439 c440], .slice A448 n449 c450, .int .i64 x458]) ?_
    refine Fq (.agg #[.int .i64 m437, .slice A438 n439 c440]) (r_extract (vs := #[.agg #[.int .i64 m437, .slice A438 n439 c440], .slice A448 n449 c450, .int .i64 x458]) rfl ek kk) ?_
    refine Fq (.slice A448 n449 c450) (r_extract (vs := #[.agg #[.int .i64 m437, .slice A438 n439 c440], .slice A448 n449 c450, .int .i64 x458]) rfl ek kk) ?_
    refine Fq (.int .i64 x458) (r_extract (vs := #[.agg #[.int .i64 m437, .slice A438 n439 c440], .slice A448 n449 c450, .int .i64 x458]) rfl ek kk) ?_
    refine W.sn (fun b => .pointer (some ⟨b, 0, none⟩)) #[.int .i64 0, .slice none 0 0] 26 s461 rfl kk rfl (fun _ => by kernel_rfl) (fun b464 w465 hb466 k467 x468 s469 => ?_)
    apply F.nx
    have lo470 : w.heap.size ≤ b464 := Nl ((Sb c430 s461 nkk)).size (Nat.le_of_eq hb466)
    have sp474 : Sp A438 n439 (some b464) := sp_new rd442 (by have := hb466; omega)
    have sp475 : Sp A448 n449 (some b464) := sp_new rd452 (by have := hb466; omega)
    have rd477 := Rk rd442 k467
    have rd478 := Rk rd452 k467
    refine W.ss (v := .agg #[.int .i64 m437, .slice A438 n439 c440]) (j := 0) (news := [.int .i64 m437, .slice A438 n439 c440]) (cs' := #[.int .i64 m437, .slice A438 n439 c440]) s469 rfl kk rfl rfl kk kk x468 kk kk (by simp) kk kk (.inr (Nl (s461).size (Nat.le_of_eq hb466))) (fun w479 g480 x481 s482 => ?_)
    have rd483 := rd_sepG rd477 g480 sp474
    have rd484 := rd_sepG rd478 g480 sp475
    refine Fa (.slice A448 n449 c450) ?_
    refine Fa (.int .i64 x458) ?_
    apply F.es
    have c485 := (Sb c430 s482 nkk)
    apply h28
    as_aux_lemma =>
     refine wk fun K29 h29 => ?_
     refine W.region_plain (row := none) [(0, false), (1, false), (2, false), (3, true), (4, false), (5, false), (6, false), (7, false), (8, false)] kk ?_
     have s489 := SG.self w479 none
     refine Fq (.agg #[.int .i64 m437, .slice A438 n439 c440]) (r_load2 rfl ek kk kk (sgS (blk_cell (j := 0) x481 kk) onn) (sgS (blk_cell (j := 1) x481 kk) onn)) ?_
     refine Fv (.slice A448 n449 c450) ?_
     refine Fv (.int .i64 x458) ?_
     refine Fc [.agg #[.int .i64 m437, .slice A438 n439 c440], .slice A448 n449 c450, .int .i64 x458] (HopelessPipes_impl m437 A438 n439 c440 dl441 A448 n449 c450 dl451 x458 w479 (Rk rd483 (SG.below s489)) (Rk rd484 (SG.below s489)) (by omega) (by omega) fm443 fm453) ?_
     rintro e w498 ⟨A490, d491, rfl, r492, b497⟩
     have s499 := SG.of_below s489 b497
     refine ⟨_, rfl, s499, ?_⟩
     apply F.nx
     have rd493 := own_rd r492
     have hl495 : (HopelessPipes_v0 m437 dl441 dl451 x458).length = (HopelessPipes_v0 m437 dl441 dl451 x458).length := rfl
     have hb500 := HopelessPipes_len m437 dl441 dl451 x458
     refine Fv (.tuple #[.slice A490 ((HopelessPipes_v0 m437 dl441 dl451 x458).length) d491, .bool (HopelessPipes_v1 m437 dl441 dl451 x458)]) ?_
     refine Fq (.slice A490 ((HopelessPipes_v0 m437 dl441 dl451 x458).length) d491) (r_extract (vs := #[.slice A490 ((HopelessPipes_v0 m437 dl441 dl451 x458).length) d491, .bool (HopelessPipes_v1 m437 dl441 dl451 x458)]) rfl ek kk) ?_
     refine Fq (.bool (HopelessPipes_v1 m437 dl441 dl451 x458)) (r_extract (vs := #[.slice A490 ((HopelessPipes_v0 m437 dl441 dl451 x458).length) d491, .bool (HopelessPipes_v1 m437 dl441 dl451 x458)]) rfl ek kk) ?_
     refine Fa (.slice A490 ((HopelessPipes_v0 m437 dl441 dl451 x458).length) d491) ?_
     refine Fa (.bool (HopelessPipes_v1 m437 dl441 dl451 x458)) ?_
     apply F.es
     have x481 := Sk s499 x481 onn
     have c501 := (Sb c485 s499 nkk)
     have rd505 := Rk rd483 (SG.below s499)
     have rd506 := Rk rd484 (SG.below s499)
     apply h29
     refine wk fun K30 h30 => ?_
     refine wk fun K31 h31 => ?_
     refine W.region_plain (row := none) [(0, false), (1, false), (2, false), (3, true), (4, false), (5, false), (6, false), (7, false), (8, false)] kk ?_
     have s507 := SG.self w498 none
     refine Fq (.agg #[.int .i64 m437, .slice A438 n439 c440]) (r_load2 rfl ek kk kk (sgS (blk_cell (j := 0) x481 kk) onn) (sgS (blk_cell (j := 1) x481 kk) onn)) ?_
     refine Fv (.slice A448 n449 c450) ?_
     refine Fv (.int .i64 x458) ?_
     refine Fc [.agg #[.int .i64 m437, .slice A438 n439 c440], .slice A448 n449 c450, .int .i64 x458] (HopelessPipes_spec m437 A438 n439 c440 dl441 A448 n449 c450 dl451 x458 w498 (Rk rd505 (SG.below s507)) (Rk rd506 (SG.below s507)) (by omega) (by omega) fm443 fm453) ?_
     rintro e w516 ⟨A508, d509, rfl, r510, b515⟩
     have s517 := SG.of_below s507 b515
     refine ⟨_, rfl, s517, ?_⟩
     apply F.nx
     have hl513 : (HopelessPipes_v0 m437 dl441 dl451 x458).length = (HopelessPipes_v0 m437 dl441 dl451 x458).length := rfl
     refine Fv (.tuple #[.slice A508 ((HopelessPipes_v0 m437 dl441 dl451 x458).length) d509, .bool (HopelessPipes_v1 m437 dl441 dl451 x458)]) ?_
     refine Fq (.slice A508 ((HopelessPipes_v0 m437 dl441 dl451 x458).length) d509) (r_extract (vs := #[.slice A508 ((HopelessPipes_v0 m437 dl441 dl451 x458).length) d509, .bool (HopelessPipes_v1 m437 dl441 dl451 x458)]) rfl ek kk) ?_
     refine Fq (.bool (HopelessPipes_v1 m437 dl441 dl451 x458)) (r_extract (vs := #[.slice A508 ((HopelessPipes_v0 m437 dl441 dl451 x458).length) d509, .bool (HopelessPipes_v1 m437 dl441 dl451 x458)]) rfl ek kk) ?_
     refine Fa (.slice A508 ((HopelessPipes_v0 m437 dl441 dl451 x458).length) d509) ?_
     refine Fa (.bool (HopelessPipes_v1 m437 dl441 dl451 x458)) ?_
     apply F.es
     have x481 := Sk s517 x481 onn
     have c518 := (Sb c501 s517 nkk)
     have rd522 := Rk rd505 (SG.below s517)
     have rd523 := Rk rd506 (SG.below s517)
     have rd524 := Rk rd493 (SG.below s517)
     apply h31
     refine wk fun K32 h32 => ?_
     refine W.region_plain (row := none) [(0, false), (1, false), (2, false), (3, false), (4, false), (5, false), (6, true), (7, false), (8, false)] kk ?_
     have s525 := SG.self w516 none
     refine Fv (.bool (HopelessPipes_v1 m437 dl441 dl451 x458)) ?_
     refine Fv (.bool (HopelessPipes_v1 m437 dl441 dl451 x458)) ?_
     refine Fq (.bool false) (r_neqB (m := (HopelessPipes_v1 m437 dl441 dl451 x458)) (n := (HopelessPipes_v1 m437 dl441 dl451 x458)) rfl ek ek kk (by rw [show ((HopelessPipes_v1 m437 dl441 dl451 x458) == (HopelessPipes_v1 m437 dl441 dl451 x458)) = true from beq_iff_eq.2 rfl]; try rfl)) ?_
     refine Fv (.bool false) ?_
     refine Fv (.slice A490 ((HopelessPipes_v0 m437 dl441 dl451 x458).length) d491) ?_
     refine Fv (.slice A508 ((HopelessPipes_v0 m437 dl441 dl451 x458).length) d509) ?_
     refine Fc [.slice A490 ((HopelessPipes_v0 m437 dl441 dl451 x458).length) d491, .slice A508 ((HopelessPipes_v0 m437 dl441 dl451 x458).length) d509] (vInts_same A490 A508 ((HopelessPipes_v0 m437 dl441 dl451 x458).length) d491 d509 (HopelessPipes_v0 m437 dl441 dl451 x458) _ (Rk rd524 (SG.below s525)) (Rk r510 (SG.below s525)) (by omega)) ?_
     rintro e w527 ⟨rfl, b526⟩
     have s528 := SG.of_below s525 b526
     refine ⟨_, rfl, s528, ?_⟩
     apply F.nx
     refine Fq (.bool false) (r_not (b := true) rfl ek rfl) ?_
     refine Fq (.bool false) (r_pick (b := false) rfl ek ek) ?_
     apply F.es
     have x481 := Sk s528 x481 onn
     have c529 := (Sb c518 s528 nkk)
     have rd533 := Rk rd522 (SG.below s528)
     have rd534 := Rk rd523 (SG.below s528)
     have rd535 := Rk rd524 (SG.below s528)
     apply h32
     as_aux_lemma =>
      refine wp_cond_false ek ?_
      apply wp_skip
      apply h30
      refine joinK (fun amj3 aaj3 wlj3 => Kn aaj3 [(0, .slice A n c), (2, .bool false)] 224 ∧ (amj3 = 0) ∧ (Below w.heap.size w wlj3)) ?_ ?_
      ·rintro amj3 aaj3 wlj3 ⟨⟨Uj3, rfl⟩, rfl, c537⟩
       refine wk fun K33 h33 => ?_
       refine W.region_plain (row := none) [(0, false), (1, true), (2, false), (3, false), (4, false), (5, false), (6, false), (7, true), (8, true), (9, false), (10, false), (11, false)] kk ?_
       have s538 := SG.self wlj3 none
       refine Fv (.slice A n c) ?_
       have z539 := ((Sb c537 s538 nkk)).size
       refine Fc [.slice A n c] (DrawSegmentPlan_any A n c zs _ (Rk hcode (Sb c537 s538 nkk)) hz (by have h9 := of_decide_eq_false q5; omega)) ?_
       rintro e w564 ⟨m540, A541, n542, c543, dl544, A551, n552, c553, dl554, x561, x562, rfl, ⟨⟨rd545, fm546, fr550⟩, hsm547⟩, ⟨⟨rd555, fm556, fr560⟩, hsm557⟩, b563⟩
       have s565 := SG.of_below s538 b563
       refine ⟨_, rfl, s565, ?_⟩
       apply F.nx
       have hl548 := rd_pipes_len rd545
       have hsm547m := hsm547.1
       have hsm547n := hsm547.2.1
       have hl558 := rd_valves_len rd555
       refine Fv (.tuple #[.agg #[.int .i64 m540, .slice A541 n542 c543], .slice A551 n552 c553, .int .i64 x561, .int .i64 x562]) ?_
       refine Fq (.agg #[.int .i64 m540, .slice A541 n542 c543]) (r_extract (vs := #[.agg #[.int .i64 m540, .slice A541 n542 c543], .slice A551 n552 c553, .int .i64 x561, .int .i64 x562]) rfl ek kk) ?_
       refine Fq (.slice A551 n552 c553) (r_extract (vs := #[.agg #[.int .i64 m540, .slice A541 n542 c543], .slice A551 n552 c553, .int .i64 x561, .int .i64 x562]) rfl ek kk) ?_
       refine Fq (.int .i64 x561) (r_extract (vs := #[.agg #[.int .i64 m540, .slice A541 n542 c543], .slice A551 n552 c553, .int .i64 x561, .int .i64 x562]) rfl ek kk) ?_
       refine Fq (.int .i64 x562) (r_extract (vs := #[.agg #[.int .i64 m540, .slice A541 n542 c543], .slice A551 n552 c553, .int .i64 x561, .int .i64 x562]) rfl ek kk) ?_
       refine W.sn (fun b => .pointer (some ⟨b, 0, none⟩)) #[.int .i64 0, .slice none 0 0] 26 s565 rfl kk rfl (fun _ => by kernel_rfl) (fun b566 w567 hb568 k569 x570 s571 => ?_)
       apply F.nx
       have lo572 : w.heap.size ≤ b566 := Nl ((Sb c537 s565 nkk)).size (Nat.le_of_eq hb568)
       have sp573 : Sp A541 n542 (some b566) := sp_new rd545 (by have := hb568; omega)
       have sp574 : Sp A551 n552 (some b566) := sp_new rd555 (by have := hb568; omega)
       have rd575 := Rk rd545 k569
       have rd576 := Rk rd555 k569
       refine W.ss (v := .agg #[.int .i64 m540, .slice A541 n542 c543]) (j := 0) (news := [.int .i64 m540, .slice A541 n542 c543]) (cs' := #[.int .i64 m540, .slice A541 n542 c543]) s571 rfl kk rfl rfl kk kk x570 kk kk (by simp) kk kk (.inr (Nl (s565).size (Nat.le_of_eq hb568))) (fun w577 g578 x579 s580 => ?_)
       have rd581 := rd_sepG rd575 g578 sp573
       have rd582 := rd_sepG rd576 g578 sp574
       refine Fa (.slice A551 n552 c553) ?_
       refine Fa (.int .i64 x561) ?_
       refine Fa (.int .i64 x562) ?_
       apply F.es
       have c583 := (Sb c537 s580 nkk)
       apply h33
       refine wk fun K34 h34 => ?_
       refine W.region_plain (row := none) [(0, false), (1, false), (2, false), (3, false), (4, true), (5, false), (6, false), (7, false), (8, false), (9, false)] kk ?_
       have s584 := SG.self w577 none
       refine Fq (.agg #[.int .i64 m540, .slice A541 n542 c543]) (r_load2 rfl ek kk kk (sgS (blk_cell (j := 0) x579 kk) onn) (sgS (blk_cell (j := 1) x579 kk) onn)) ?_
       refine Fv (.slice A551 n552 c553) ?_
       refine Fv (.int .i64 x561) ?_
       refine Fv (.int .i64 x562) ?_
       refine Fc [.agg #[.int .i64 m540, .slice A541 n542 c543], .slice A551 n552 c553, .int .i64 x561, .int .i64 x562] (SegmentPlan_impl m540 A541 n542 c543 dl544 A551 n552 c553 dl554 x561 x562 w577 (Rk rd581 (SG.below s584)) (Rk rd582 (SG.below s584)) (by omega) (by omega) fm546 fm556) ?_
       rintro e w593 ⟨A585, d586, rfl, r587, b592⟩
       have s594 := SG.of_below s584 b592
       refine ⟨_, rfl, s594, ?_⟩
       apply F.nx
       have rd588 := own_rd r587
       have hl590 : (SegmentPlan_v0 m540 dl544 dl554 x561 x562).length = (SegmentPlan_v0 m540 dl544 dl554 x561 x562).length := rfl
       have hb595 := SegmentPlan_len m540 dl544 dl554 x561 x562
       refine Fv (.tuple #[.slice A585 ((SegmentPlan_v0 m540 dl544 dl554 x561 x562).length) d586, .bool (SegmentPlan_v1 m540 dl544 dl554 x561 x562)]) ?_
       refine Fq (.slice A585 ((SegmentPlan_v0 m540 dl544 dl554 x561 x562).length) d586) (r_extract (vs := #[.slice A585 ((SegmentPlan_v0 m540 dl544 dl554 x561 x562).length) d586, .bool (SegmentPlan_v1 m540 dl544 dl554 x561 x562)]) rfl ek kk) ?_
       refine Fq (.bool (SegmentPlan_v1 m540 dl544 dl554 x561 x562)) (r_extract (vs := #[.slice A585 ((SegmentPlan_v0 m540 dl544 dl554 x561 x562).length) d586, .bool (SegmentPlan_v1 m540 dl544 dl554 x561 x562)]) rfl ek kk) ?_
       refine Fa (.slice A585 ((SegmentPlan_v0 m540 dl544 dl554 x561 x562).length) d586) ?_
       refine Fa (.bool (SegmentPlan_v1 m540 dl544 dl554 x561 x562)) ?_
       apply F.es
       have x579 := Sk s594 x579 onn
       have c596 := (Sb c583 s594 nkk)
       have rd597 := Rk rd581 (SG.below s594)
       have rd598 := Rk rd582 (SG.below s594)
       apply h34
       as_aux_lemma =>
        refine wk fun K35 h35 => ?_
        refine W.region_plain (row := none) [(0, false), (1, false), (2, false), (3, false), (4, true), (5, false), (6, false), (7, false), (8, false), (9, false)] kk ?_
        have s599 := SG.self w593 none
        refine Fq (.agg #[.int .i64 m540, .slice A541 n542 c543]) (r_load2 rfl ek kk kk (sgS (blk_cell (j := 0) x579 kk) onn) (sgS (blk_cell (j := 1) x579 kk) onn)) ?_
        refine Fv (.slice A551 n552 c553) ?_
        refine Fv (.int .i64 x561) ?_
        refine Fv (.int .i64 x562) ?_
        refine Fc [.agg #[.int .i64 m540, .slice A541 n542 c543], .slice A551 n552 c553, .int .i64 x561, .int .i64 x562] (SegmentPlan_spec m540 A541 n542 c543 dl544 A551 n552 c553 dl554 x561 x562 w593 (Rk rd597 (SG.below s599)) (Rk rd598 (SG.below s599)) (by omega) (by omega) fm546 fm556) ?_
        rintro e w608 ⟨A600, d601, rfl, r602, b607⟩
        have s609 := SG.of_below s599 b607
        refine ⟨_, rfl, s609, ?_⟩
        apply F.nx
        have hl605 : (SegmentPlan_v0 m540 dl544 dl554 x561 x562).length = (SegmentPlan_v0 m540 dl544 dl554 x561 x562).length := rfl
        refine Fv (.tuple #[.slice A600 ((SegmentPlan_v0 m540 dl544 dl554 x561 x562).length) d601, .bool (SegmentPlan_v1 m540 dl544 dl554 x561 x562)]) ?_
        refine Fq (.slice A600 ((SegmentPlan_v0 m540 dl544 dl554 x561 x562).length) d601) (r_extract (vs := #[.slice A600 ((SegmentPlan_v0 m540 dl544 dl554 x561 x562).length) d601, .bool (SegmentPlan_v1 m540 dl544 dl554 x561 x562)]) rfl ek kk) ?_
        refine Fq (.bool (SegmentPlan_v1 m540 dl544 dl554 x561 x562)) (r_extract (vs := #[.slice A600 ((SegmentPlan_v0 m540 dl544 dl554 x561 x562).length) d601, .bool (SegmentPlan_v1 m540 dl544 dl554 x561 x562)]) rfl ek kk) ?_
        refine Fa (.slice A600 ((SegmentPlan_v0 m540 dl544 dl554 x561 x562).length) d601) ?_
        refine Fa (.bool (SegmentPlan_v1 m540 dl544 dl554 x561 x562)) ?_
        apply F.es
        have c610 := (Sb c596 s609 nkk)
        have rd613 := Rk rd588 (SG.below s609)
        apply h35
        refine wk fun K36 h36 => ?_
        refine W.region_plain (row := none) [(0, false), (1, false), (2, false), (3, false), (4, false), (5, false), (6, true), (7, false), (8, false)] kk ?_
        have s614 := SG.self w608 none
        refine Fv (.bool (SegmentPlan_v1 m540 dl544 dl554 x561 x562)) ?_
        refine Fv (.bool (SegmentPlan_v1 m540 dl544 dl554 x561 x562)) ?_
        refine Fq (.bool true) (r_eqlB (m := (SegmentPlan_v1 m540 dl544 dl554 x561 x562)) (n := (SegmentPlan_v1 m540 dl544 dl554 x561 x562)) rfl ek ek kk (beq_iff_eq.2 rfl)) ?_
        refine Fv (.bool true) ?_
        refine Fv (.slice A585 ((SegmentPlan_v0 m540 dl544 dl554 x561 x562).length) d586) ?_
        refine Fv (.slice A600 ((SegmentPlan_v0 m540 dl544 dl554 x561 x562).length) d601) ?_
        refine Fc [.slice A585 ((SegmentPlan_v0 m540 dl544 dl554 x561 x562).length) d586, .slice A600 ((SegmentPlan_v0 m540 dl544 dl554 x561 x562).length) d601] (vInts_same A585 A600 ((SegmentPlan_v0 m540 dl544 dl554 x561 x562).length) d586 d601 (SegmentPlan_v0 m540 dl544 dl554 x561 x562) _ (Rk rd613 (SG.below s614)) (Rk r602 (SG.below s614)) (by omega)) ?_
        rintro e w616 ⟨rfl, b615⟩
        have s617 := SG.of_below s614 b615
        refine ⟨_, rfl, s617, ?_⟩
        apply F.nx
        refine Fq (.bool true) (r_pick (b := true) rfl ek ek) ?_
        refine Fa (.bool true) ?_
        apply F.es
        have c618 := (Sb c610 s617 nkk)
        apply h36
        refine wp_ret ?_
        try simp only [Exit.then]
        refine ret1 (v := .bool true) rfl kk ?_
        exact ⟨rfl, c618⟩
      intro K37 h37
      refine wk fun K38 h38 => ?_
      refine Rq 7 ?_
      refine Fv (.bool (HopelessPipes_v1 m437 dl441 dl451 x458)) ?_
      refine Fv (.bool (HopelessPipes_v1 m437 dl441 dl451 x458)) ?_
      rcases Bool.eq_false_or_eq_true (HopelessPipes_v1 m437 dl441 dl451 x458) with q623 | q623
      ·rw [q623]
       refine Fq (.pointer (some ⟨b464, 1, none⟩)) (r_field (k := 1) rfl ek kk) ?_
       refine Fl (.slice A438 n439 c440) (eqS (blk_cell (j := 1) x481 kk)) ?_
       refine Fq (.int .i64 (n439 : Int)) (r_len (A := A438) (n := n439) (c := c440) rfl ek kk) ?_
       by_cases q624 : ((n439 : Int) : Int) > (0 : Int)
       ·refine Fq (.bool true) (r_gtr (m := (n439 : Int)) (n := 0) rfl ek ek (dt q624)) ?_
        refine Fq (.bool true) (r_pick (b := true) rfl ek ek) ?_
        apply F.es
        apply h38
        as_aux_lemma =>
         refine wp_cond_true ek ?_
         refine wk fun K39 h39 => ?_
         refine Rq 6 ?_
         refine Fq (.pointer (some ⟨b464, 1, none⟩)) (r_field (k := 1) rfl ek kk) ?_
         refine Fl (.slice A438 n439 c440) (eqS (blk_cell (j := 1) x481 kk)) ?_
         obtain ⟨x625, hx626⟩ := get_of (zs := dl441) (k := 0) (by have := hl445; omega)
         obtain ⟨b627, o628, hA629, hb630, hc631, hc632, hc633, hc634⟩ := Rd.elPipe rd533 hx626
         refine Fq (.pointer (some ⟨b627, o628 + 0 * 4, none⟩)) (r_idx (n := n439) (c := c440) (k := 0) rfl ek hA629 kk kk (by have := hl445; omega)) ?_
         refine Fq (.pointer (some ⟨b627, o628 + 0 * 4, none⟩)) (r_field0 rfl ek kk) ?_
         refine Fl (.int .i64 x625.id) (eqS hc631) ?_
         refine Fa (.int .i64 x625.id) ?_
         apply F.es
         apply h39
         refine wk fun K40 h40 => ?_
         refine W.region_plain (row := none) [(0, false), (1, false), (2, false), (3, false), (4, true), (5, false), (6, false), (7, false), (8, false), (9, false)] kk ?_
         have s635 := SG.self w527 none
         refine Fq (.agg #[.int .i64 m437, .slice A438 n439 c440]) (r_load2 rfl ek kk kk (sgS (blk_cell (j := 0) x481 kk) onn) (sgS (blk_cell (j := 1) x481 kk) onn)) ?_
         refine Fv (.slice A448 n449 c450) ?_
         refine Fv (.int .i64 x458) ?_
         refine Fv (.int .i64 x625.id) ?_
         refine Fc [.agg #[.int .i64 m437, .slice A438 n439 c440], .slice A448 n449 c450, .int .i64 x458, .int .i64 x625.id] (ShortestPlan_impl m437 A438 n439 c440 dl441 A448 n449 c450 dl451 x458 x625.id w527 (Rk rd533 (SG.below s635)) (Rk rd534 (SG.below s635)) (by omega) (by omega) fm443 fm453) ?_
         rintro e w644 ⟨A636, d637, rfl, r638, b643⟩
         have s645 := SG.of_below s635 b643
         refine ⟨_, rfl, s645, ?_⟩
         apply F.nx
         have hl641 : (ShortestPlan_v0 m437 dl441 dl451 x458 x625.id).length = (ShortestPlan_v0 m437 dl441 dl451 x458 x625.id).length := rfl
         have hb646 := ShortestPlan_len m437 dl441 dl451 x458 x625.id
         rcases Bool.eq_false_or_eq_true (ShortestPlan_v1 m437 dl441 dl451 x458 x625.id) with q647 | q647
         ·rw [q647]
          refine Fv (.tuple #[.slice A636 ((ShortestPlan_v0 m437 dl441 dl451 x458 x625.id).length) d637, .bool true]) ?_
          refine Fq (.slice A636 ((ShortestPlan_v0 m437 dl441 dl451 x458 x625.id).length) d637) (r_extract (vs := #[.slice A636 ((ShortestPlan_v0 m437 dl441 dl451 x458 x625.id).length) d637, .bool true]) rfl ek kk) ?_
          refine Fq (.bool true) (r_extract (vs := #[.slice A636 ((ShortestPlan_v0 m437 dl441 dl451 x458 x625.id).length) d637, .bool true]) rfl ek kk) ?_
          refine Fa (.slice A636 ((ShortestPlan_v0 m437 dl441 dl451 x458 x625.id).length) d637) ?_
          refine Fa (.bool true) ?_
          apply F.es
          have c648 := (Sb c529 s645 nkk)
          have rd654 := Rk rd535 (SG.below s645)
          apply h40
          refine wk fun K41 h41 => ?_
          refine W.region_plain (row := none) [(0, false), (1, false), (2, false), (3, true), (4, false)] kk ?_
          have s656 := SG.self w644 none
          refine Fv (.bool true) ?_
          refine Fv (.slice A490 ((HopelessPipes_v0 m437 dl441 dl451 x458).length) d491) ?_
          refine Fv (.int .i64 x625.id) ?_
          refine Fc [.slice A490 ((HopelessPipes_v0 m437 dl441 dl451 x458).length) d491, .int .i64 x625.id] (vHas_any A490 ((HopelessPipes_v0 m437 dl441 dl451 x458).length) d491 (HopelessPipes_v0 m437 dl441 dl451 x458) x625.id _ (Rk rd654 (SG.below s656)) (by omega)) ?_
          rintro e w658 ⟨rfl, b657⟩
          have s659 := SG.of_below s656 b657
          refine ⟨_, rfl, s659, ?_⟩
          apply F.nx
          have q660 : ((HopelessPipes_v0 m437 dl441 dl451 x458).contains x625.id) = false := (hope_iff q623 (List.mem_of_getElem? hx626)).trans (by rw [q647]; try rfl)
          rw [q660]
          refine Fq (.bool false) (r_eqlB (m := true) (n := false) rfl ek ek kk rfl) ?_
          apply F.es
          have c661 := (Sb c648 s659 nkk)
          apply h41
          as_aux_lemma =>
           refine wp_cond_false ek ?_
           apply wp_skip
           exact h37 _ _ _ ⟨Kn.of, rfl, c661⟩
         rw [q647]
         refine Fv (.tuple #[.slice A636 ((ShortestPlan_v0 m437 dl441 dl451 x458 x625.id).length) d637, .bool false]) ?_
         refine Fq (.slice A636 ((ShortestPlan_v0 m437 dl441 dl451 x458 x625.id).length) d637) (r_extract (vs := #[.slice A636 ((ShortestPlan_v0 m437 dl441 dl451 x458 x625.id).length) d637, .bool false]) rfl ek kk) ?_
         refine Fq (.bool false) (r_extract (vs := #[.slice A636 ((ShortestPlan_v0 m437 dl441 dl451 x458 x625.id).length) d637, .bool false]) rfl ek kk) ?_
         refine Fa (.slice A636 ((ShortestPlan_v0 m437 dl441 dl451 x458 x625.id).length) d637) ?_
         refine Fa (.bool false) ?_
         apply F.es
         have c670 := (Sb c529 s645 nkk)
         have rd676 := Rk rd535 (SG.below s645)
         apply h40
         refine wk fun K42 h42 => ?_
         refine W.region_plain (row := none) [(0, false), (1, false), (2, false), (3, true), (4, false)] kk ?_
         have s678 := SG.self w644 none
         refine Fv (.bool false) ?_
         refine Fv (.slice A490 ((HopelessPipes_v0 m437 dl441 dl451 x458).length) d491) ?_
         refine Fv (.int .i64 x625.id) ?_
         refine Fc [.slice A490 ((HopelessPipes_v0 m437 dl441 dl451 x458).length) d491, .int .i64 x625.id] (vHas_any A490 ((HopelessPipes_v0 m437 dl441 dl451 x458).length) d491 (HopelessPipes_v0 m437 dl441 dl451 x458) x625.id _ (Rk rd676 (SG.below s678)) (by omega)) ?_
         rintro e w680 ⟨rfl, b679⟩
         have s681 := SG.of_below s678 b679
         refine ⟨_, rfl, s681, ?_⟩
         apply F.nx
         have q682 : ((HopelessPipes_v0 m437 dl441 dl451 x458).contains x625.id) = true := (hope_iff q623 (List.mem_of_getElem? hx626)).trans (by rw [q647]; try rfl)
         rw [q682]
         refine Fq (.bool false) (r_eqlB (m := false) (n := true) rfl ek ek kk rfl) ?_
         apply F.es
         have c683 := (Sb c670 s681 nkk)
         apply h42
         refine wp_cond_false ek ?_
         apply wp_skip
         exact h37 _ _ _ ⟨Kn.of, rfl, c683⟩
       refine Fq (.bool false) (r_gtr (m := (n439 : Int)) (n := 0) rfl ek ek (df q624)) ?_
       refine Fq (.bool false) (r_pick (b := true) rfl ek ek) ?_
       apply F.es
       apply h38
       refine wp_cond_false ek ?_
       apply wp_skip
       exact h37 _ _ _ ⟨Kn.of, rfl, c529⟩
      rw [q623]
      refine Fs rfl ?_
      refine Fs rfl ?_
      refine Fs rfl ?_
      refine Fs rfl ?_
      refine Fq (.bool false) (r_pick (b := false) rfl ek ek) ?_
      apply F.es
      apply h38
      as_aux_lemma =>
       refine wp_cond_false ek ?_
       apply wp_skip
       exact h37 _ _ _ ⟨Kn.of, rfl, c529⟩
   intro K43 h43
   refine wk fun K44 h44 => ?_
   refine Rq 1 ?_
   refine Fv (.bool (ShortestPlan_v1 m10 dl14 dl24 x31 x32)) ?_
   apply F.es
   apply h44
   rcases Bool.eq_false_or_eq_true (ShortestPlan_v1 m10 dl14 dl24 x31 x32) with q692 | q692
   ·rw [q692]
    refine wp_cond_true ek ?_
    refine wk fun K45 h45 => ?_
    refine wk fun K46 h46 => ?_
    refine W.region_plain (row := none) [(0, false), (1, false), (2, false), (3, false), (4, false), (5, true), (6, false)] kk ?_
    have s693 := SG.self w86 none
    refine Fq (.agg #[.int .i64 m10, .slice A11 n12 c13]) (r_load2 rfl ek kk kk (sgS (blk_cell (j := 0) x49 kk) onn) (sgS (blk_cell (j := 1) x49 kk) onn)) ?_
    refine Fv (.slice A21 n22 c23) ?_
    refine Fv (.int .i64 x31) ?_
    refine Fv (.int .i64 x32) ?_
    refine Fv (.slice A55 ((ShortestPlan_v0 m10 dl14 dl24 x31 x32).length) d56) ?_
    refine Fc [.agg #[.int .i64 m10, .slice A11 n12 c13], .slice A21 n22 c23, .int .i64 x31, .int .i64 x32, .slice A55 ((ShortestPlan_v0 m10 dl14 dl24 x31 x32).length) d56] (IsPlan_impl m10 A11 n12 c13 dl14 A21 n22 c23 dl24 x31 x32 A55 ((ShortestPlan_v0 m10 dl14 dl24 x31 x32).length) d56 (ShortestPlan_v0 m10 dl14 dl24 x31 x32) w86 (Rk rd89 (SG.below s693)) (Rk rd90 (SG.below s693)) (Rk rd91 (SG.below s693)) (by omega) (by omega) (by omega) fm16 fm26 fm59) ?_
    rintro e w695 ⟨rfl, b694⟩
    have s696 := SG.of_below s693 b694
    refine ⟨_, rfl, s696, ?_⟩
    apply F.nx
    have q697 : (IsPlan_v0 m10 dl14 dl24 x31 x32 (ShortestPlan_v0 m10 dl14 dl24 x31 x32)) = true := short_is q692
    rw [q697]
    refine Fq (.bool false) (r_not (b := true) rfl ek rfl) ?_
    apply F.es
    have x49 := Sk s696 x49 onn
    have c698 := (Sb c88 s696 nkk)
    have rd699 := Rk rd89 (SG.below s696)
    have rd700 := Rk rd90 (SG.below s696)
    have rd701 := Rk rd91 (SG.below s696)
    apply h46
    refine wp_cond_false ek ?_
    apply wp_skip
    apply h45
    refine wk fun K47 h47 => ?_
    refine wk fun K48 h48 => ?_
    refine Rq 1 ?_
    refine Fa (.int .i64 0) ?_
    apply F.es
    apply h48
    refine wp_block ?_
    refine loopK (fun am0 aa0 wl0 => ∃ (i : Nat) , Kn aa0 [(0, .slice A n c), (2, .bool false), (3, .pointer (some ⟨b36, 0, none⟩)), (4, .slice A21 n22 c23), (5, .int .i64 x31), (6, .int .i64 x32), (7, .slice A55 ((ShortestPlan_v0 m10 dl14 dl24 x31 x32).length) d56), (11, .int .i64 (i : Int))] 224 ∧ (am0 = (ShortestPlan_v0 m10 dl14 dl24 x31 x32).length - i) ∧ (i ≤ (ShortestPlan_v0 m10 dl14 dl24 x31 x32).length) ∧ (wl0.heap[b36]? = some (.cells #[.int .i64 m10, .slice A11 n12 c13] 26 (0, 0))) ∧ (Rd wl0 4 A21 n22 (valvesV dl24)) ∧ (Rd wl0 1 A55 ((ShortestPlan_v0 m10 dl14 dl24 x31 x32).length) (intsV (ShortestPlan_v0 m10 dl14 dl24 x31 x32))) ∧ (Rd wl0 4 A11 n12 (pipesV dl14)) ∧ (Below w.heap.size w wl0)) ((ShortestPlan_v0 m10 dl14 dl24 x31 x32).length - 0) ?_ ?_
    ·exact ⟨0, Kn.of, rfl, (Nat.zero_le _), x49, rd700, rd701, rd699, c698⟩
    rintro am0 aa0 wl0 K49 h49 ⟨i, ⟨U0, rfl⟩, rfl, hi, x49, kl0_0, kl0_1, kl0_2, c703⟩
    refine wk fun K50 h50 => ?_
    refine wk fun K51 h51 => ?_
    refine Rq 4 ?_
    refine Fv (.int .i64 (i : Int)) ?_
    refine Fv (.slice A55 ((ShortestPlan_v0 m10 dl14 dl24 x31 x32).length) d56) ?_
    refine Fq (.int .i64 (((ShortestPlan_v0 m10 dl14 dl24 x31 x32).length : Nat) : Int)) (r_len (A := A55) (n := (ShortestPlan_v0 m10 dl14 dl24 x31 x32).length) (c := d56) rfl ek kk) ?_
    by_cases q704 : ((i : Int) : Int) < ((((ShortestPlan_v0 m10 dl14 dl24 x31 x32).length : Nat) : Int) : Int)
    ·refine Fq (.bool true) (r_lss (m := (i : Int)) (n := (((ShortestPlan_v0 m10 dl14 dl24 x31 x32).length : Nat) : Int)) rfl ek ek (dt q704)) ?_
     apply F.es
     apply h51
     refine wp_cond_true ek ?_
     apply wp_skip
     apply h50
     as_aux_lemma =>
      refine wk fun K52 h52 => ?_
      refine wp_block ?_
      refine wk fun K53 h53 => ?_
      refine W.region_sch (row := none) (Sch.of [(1, false), (2, false), (3, false), (5, false), (6, false), (7, false), (8, false), (0, true), (4, true), (9, true), (10, false)]) kk kk (fun _ d _ _ _ h => by cases d <;> exact h) kk (fun w705 e706 s707 => ?_)
      refine Fv (.slice A55 ((ShortestPlan_v0 m10 dl14 dl24 x31 x32).length) d56) ?_
      refine Fv (.int .i64 (i : Int)) ?_
      refine Fq (.slice A55 i d56) (r_sliceTo (A := A55) (n := (ShortestPlan_v0 m10 dl14 dl24 x31 x32).length) (c := d56) (k := i) (size := 1) rfl ek ek kk (by have := (fm59).le; omega)) ?_
      refine Fv (.slice A55 ((ShortestPlan_v0 m10 dl14 dl24 x31 x32).length) d56) ?_
      refine Fv (.int .i64 (i : Int)) ?_
      refine Fq (.int .i64 ((i + 1 : Nat) : Int)) (r_add (m := (i : Int)) (n := 1) (z := ((i + 1 : Nat) : Int)) rfl ek ek (by omega) (by omega)) ?_
      refine Fq (.slice (sFrom A55 d56 (i + 1) 1) (((ShortestPlan_v0 m10 dl14 dl24 x31 x32).length) - (i + 1)) (d56 - (i + 1))) (r_sliceFrom (A := A55) (n := (ShortestPlan_v0 m10 dl14 dl24 x31 x32).length) (c := d56) (k := i + 1) (size := 1) rfl ek ek kk (by omega)) ?_
      refine W.sn (fun b => .slice (some ⟨b, 0, none⟩) 0 0) #[] 3 s707 rfl kk rfl (fun _ => by kernel_rfl) (fun b708 w709 hb710 k711 x712 s713 => ?_)
      apply F.nx
      have lo714 : w.heap.size ≤ b708 := Nl ((Sb c703 s707 nkk)).size (Nat.le_of_eq hb710)
      have ho719 := own_empty (base := w.heap.size) (size := 1) x712 lo714
      replace ho719 : World.ownsRow _ _ _ _ _ _ (intsV []) := ho719
      replace ho719 : World.ownsRow _ _ _ _ _ _ (intsV []) := ho719
      refine W.sapR (e := 3) (size := 1) (base := w.heap.size) (v := .slice (some ⟨b708, 0, none⟩) 0 0) (A := A55) (m := i) (c := d56) s713 rfl rfl rfl rfl kk kk kk ho719 (Rd.toI (Rk kl0_1 (SG.below s713)) (by omega)) (Fm.to fm59 (by have := (fm59).le; omega)) (ints_one _) (by omega) (by have := ((Sb c703 s713 nkk)).size; omega) (.inr (fun kq e => by have := (s707).size; have := hb710; have e' := Option.some.inj e; simp at e'; omega)) (fun A724 cap725 w726 ho727 hg728 hat729 s730 => ?_)
      apply F.nx
      have ho727 := own_joinI ho727
      have fr735 : ∀ kq, (.slice A724 (0 + i) cap725 : Value).ownBlock = some kq → wl0.heap.size ≤ kq := fun kq e => by
        have hs := (s713).size
        rcases hat729 with h | h
        · exact (show ∀ kq, Value.ownBlock _ = some kq → wl0.heap.size ≤ kq from (fun kq e => by have := (s707).size; have := hb710; have e' := Option.some.inj e; simp at e'; omega)) kq (h.symm.trans e)
        · have := Option.some.inj (h.symm.trans e); omega
      refine W.sapR (e := 3) (size := 1) (base := w.heap.size) (v := .slice A724 (0 + i) cap725) (A := (sFrom A55 d56 (i + 1) 1)) (m := (((ShortestPlan_v0 m10 dl14 dl24 x31 x32).length) - (i + 1))) (c := (d56 - (i + 1))) s730 rfl rfl rfl rfl kk kk kk ho727 (Rd.fromI (Rk kl0_1 (SG.below s730)) (by omega) (fm59).le) (Fm.from (size := 1) fm59 (by omega)) (ints_one _) (by omega) (by have := ((Sb c703 s730 nkk)).size; omega) (.inr fr735) (fun A736 cap737 w738 ho739 hg740 hat741 s742 => ?_)
      apply F.nx
      have ho739 := own_joinI ho739
      have fr747 : ∀ kq, (.slice A736 ((0 + i) + (((ShortestPlan_v0 m10 dl14 dl24 x31 x32).length) - (i + 1))) cap737 : Value).ownBlock = some kq → wl0.heap.size ≤ kq := fun kq e => by
        have hs := (s730).size
        rcases hat741 with h | h
        · exact (show ∀ kq, Value.ownBlock _ = some kq → wl0.heap.size ≤ kq from fr735) kq (h.symm.trans e)
        · have := Option.some.inj (h.symm.trans e); omega
      refine Fa (.slice A736 ((0 + i) + (((ShortestPlan_v0 m10 dl14 dl24 x31 x32).length) - (i + 1))) cap737) ?_
      apply F.es
      have x49 := Sk s742 x49 onn
      have c748 := (Sb c703 s742 nkk)
      have rd749 := Rk kl0_2 (SG.below s742)
      have rd750 := Rk kl0_0 (SG.below s742)
      have rd751 := Rk kl0_1 (SG.below s742)
      apply h53
      refine wk fun K54 h54 => ?_
      refine W.region_plain (row := none) [(0, false), (1, false), (2, false), (3, false), (4, false), (5, true)] kk ?_
      have s752 := SG.self w738 none
      refine Fq (.agg #[.int .i64 m10, .slice A11 n12 c13]) (r_load2 rfl ek kk kk (sgS (blk_cell (j := 0) x49 kk) onn) (sgS (blk_cell (j := 1) x49 kk) onn)) ?_
      refine Fv (.slice A21 n22 c23) ?_
      refine Fv (.int .i64 x31) ?_
      refine Fv (.int .i64 x32) ?_
      refine Fv (.slice A736 ((0 + i) + (((ShortestPlan_v0 m10 dl14 dl24 x31 x32).length) - (i + 1))) cap737) ?_
      refine Fc [.agg #[.int .i64 m10, .slice A11 n12 c13], .slice A21 n22 c23, .int .i64 x31, .int .i64 x32, .slice A736 ((0 + i) + (((ShortestPlan_v0 m10 dl14 dl24 x31 x32).length) - (i + 1))) cap737] (IsPlan_impl m10 A11 n12 c13 dl14 A21 n22 c23 dl24 x31 x32 A736 ((0 + i) + (((ShortestPlan_v0 m10 dl14 dl24 x31 x32).length) - (i + 1))) cap737 (([] ++ ((ShortestPlan_v0 m10 dl14 dl24 x31 x32).take i)) ++ ((ShortestPlan_v0 m10 dl14 dl24 x31 x32).drop (i + 1))) w738 (Rk rd749 (SG.below s752)) (Rk rd750 (SG.below s752)) (own_rd ho739) (by omega) (by omega) (by omega) fm16 fm26 (own_fm ho739)) ?_
      rintro e w754 ⟨rfl, b753⟩
      have s755 := SG.of_below s752 b753
      refine ⟨_, rfl, s755, ?_⟩
      apply F.nx
      have q757 : (IsPlan_v0 m10 dl14 dl24 x31 x32 (([] ++ ((ShortestPlan_v0 m10 dl14 dl24 x31 x32).take i)) ++ ((ShortestPlan_v0 m10 dl14 dl24 x31 x32).drop (i + 1)))) = false := short_less q692 (i := i) (by omega)
      rw [q757]
      apply F.es
      have x49 := Sk s755 x49 onn
      have c758 := (Sb c748 s755 nkk)
      have rd759 := Rk rd749 (SG.below s755)
      have rd760 := Rk rd750 (SG.below s755)
      have rd761 := Rk rd751 (SG.below s755)
      apply h54
      as_aux_lemma =>
       refine wp_cond_false ek ?_
       apply wp_skip
       apply h52
       refine Rq 3 ?_
       refine Fv (.int .i64 (i : Int)) ?_
       refine Fq (.int .i64 ((i + 1 : Nat) : Int)) (r_add (m := (i : Int)) (n := 1) (z := ((i + 1 : Nat) : Int)) rfl ek ek (by omega) (by omega)) ?_
       refine Fa (.int .i64 ((i + 1 : Nat) : Int)) ?_
       apply F.es
       exact h49 _ _ _ (by omega : ((ShortestPlan_v0 m10 dl14 dl24 x31 x32).length - (i + 1)) < _) ⟨i + 1, Kn.of, rfl, (by omega), x49, rd760, rd761, rd759, c758⟩
    refine Fq (.bool false) (r_lss (m := (i : Int)) (n := (((ShortestPlan_v0 m10 dl14 dl24 x31 x32).length : Nat) : Int)) rfl ek ek (df q704)) ?_
    apply F.es
    apply h51
    refine wp_cond_false ek ?_
    refine wp_exit ?_
    apply h47
    refine wk fun K55 h55 => ?_
    refine W.region_plain (row := none) [(0, false), (1, false), (2, false), (3, false), (4, true), (5, false), (6, false), (7, false), (8, false), (9, false)] kk ?_
    have s762 := SG.self wl0 none
    refine Fq (.agg #[.int .i64 m10, .slice A11 n12 c13]) (r_load2 rfl ek kk kk (sgS (blk_cell (j := 0) x49 kk) onn) (sgS (blk_cell (j := 1) x49 kk) onn)) ?_
    refine Fv (.slice A21 n22 c23) ?_
    refine Fv (.int .i64 x31) ?_
    refine Fv (.int .i64 x32) ?_
    refine Fc [.agg #[.int .i64 m10, .slice A11 n12 c13], .slice A21 n22 c23, .int .i64 x31, .int .i64 x32] (SegmentPlan_impl m10 A11 n12 c13 dl14 A21 n22 c23 dl24 x31 x32 wl0 (Rk kl0_2 (SG.below s762)) (Rk kl0_0 (SG.below s762)) (by omega) (by omega) fm16 fm26) ?_
    rintro e w771 ⟨A763, d764, rfl, r765, b770⟩
    have s772 := SG.of_below s762 b770
    refine ⟨_, rfl, s772, ?_⟩
    apply F.nx
    have hl768 : (SegmentPlan_v0 m10 dl14 dl24 x31 x32).length = (SegmentPlan_v0 m10 dl14 dl24 x31 x32).length := rfl
    have hb773 := SegmentPlan_len m10 dl14 dl24 x31 x32
    refine Fv (.tuple #[.slice A763 ((SegmentPlan_v0 m10 dl14 dl24 x31 x32).length) d764, .bool (SegmentPlan_v1 m10 dl14 dl24 x31 x32)]) ?_
    refine Fq (.slice A763 ((SegmentPlan_v0 m10 dl14 dl24 x31 x32).length) d764) (r_extract (vs := #[.slice A763 ((SegmentPlan_v0 m10 dl14 dl24 x31 x32).length) d764, .bool (SegmentPlan_v1 m10 dl14 dl24 x31 x32)]) rfl ek kk) ?_
    refine Fq (.bool (SegmentPlan_v1 m10 dl14 dl24 x31 x32)) (r_extract (vs := #[.slice A763 ((SegmentPlan_v0 m10 dl14 dl24 x31 x32).length) d764, .bool (SegmentPlan_v1 m10 dl14 dl24 x31 x32)]) rfl ek kk) ?_
    refine Fa (.slice A763 ((SegmentPlan_v0 m10 dl14 dl24 x31 x32).length) d764) ?_
    refine Fa (.bool (SegmentPlan_v1 m10 dl14 dl24 x31 x32)) ?_
    apply F.es
    have c774 := (Sb c703 s772 nkk)
    apply h55
    refine wk fun K56 h56 => ?_
    refine Rq 8 ?_
    refine Fv (.bool (SegmentPlan_v1 m10 dl14 dl24 x31 x32)) ?_
    refine Fv (.bool (SegmentPlan_v1 m10 dl14 dl24 x31 x32)) ?_
    rcases Bool.eq_false_or_eq_true (SegmentPlan_v1 m10 dl14 dl24 x31 x32) with q778 | q778
    ·rw [q778]
     refine Fv (.slice A763 ((SegmentPlan_v0 m10 dl14 dl24 x31 x32).length) d764) ?_
     refine Fq (.int .i64 (((SegmentPlan_v0 m10 dl14 dl24 x31 x32).length : Nat) : Int)) (r_len (A := A763) (n := (SegmentPlan_v0 m10 dl14 dl24 x31 x32).length) (c := d764) rfl ek kk) ?_
     refine Fv (.slice A55 ((ShortestPlan_v0 m10 dl14 dl24 x31 x32).length) d56) ?_
     refine Fq (.int .i64 (((ShortestPlan_v0 m10 dl14 dl24 x31 x32).length : Nat) : Int)) (r_len (A := A55) (n := (ShortestPlan_v0 m10 dl14 dl24 x31 x32).length) (c := d56) rfl ek kk) ?_
     refine Fq (.bool false) (r_lss (m := (((SegmentPlan_v0 m10 dl14 dl24 x31 x32).length : Nat) : Int)) (n := (((ShortestPlan_v0 m10 dl14 dl24 x31 x32).length : Nat) : Int)) rfl ek ek (df (by have h9 := seg_long q692 q778; omega))) ?_
     refine Fq (.bool false) (r_pick (b := true) rfl ek ek) ?_
     apply F.es
     apply h56
     refine wp_cond_false ek ?_
     apply wp_skip
     exact h43 _ _ _ ⟨Kn.of, rfl, c774⟩
    rw [q778]
    refine Fs rfl ?_
    refine Fs rfl ?_
    refine Fs rfl ?_
    refine Fs rfl ?_
    refine Fs rfl ?_
    refine Fq (.bool false) (r_pick (b := false) rfl ek ek) ?_
    apply F.es
    apply h56
    as_aux_lemma =>
     refine wp_cond_false ek ?_
     apply wp_skip
     exact h43 _ _ _ ⟨Kn.of, rfl, c774⟩
   rw [q692]
   refine wp_cond_false ek ?_
   apply wp_skip
   exact h43 _ _ _ ⟨Kn.of, rfl, c88⟩
theorem byte_of {n : Int} (h : (Lit.int .u8 n).wf = true) : 0 ≤ n ∧ n < 256 := by
  have h2 : (decide ((0 : Int) ≤ n) && decide (n ≤ 255)) = true := h
  simp only [Bool.and_eq_true, decide_eq_true_eq] at h2
  omega
theorem w_FnPlans (x0 : Option Addr) (n0 p0 : Nat) (a0 : List Int) (w : World) (H0 : a0.length = n0 ∧ Rd w 1 x0 n0 (a0.map (Value.int .u8)) ∧ n0 ≤ maxLen ∧ ∀ n ∈ a0, (Lit.int .u8 n).wf = true) :
    Calls Try.prog 6 #[.slice x0 n0 p0] w fun e w' => e = .returned (.bool true) ∧ Below w.heap.size w w' :=
  wi_FnPlans x0 n0 p0 a0 w H0.2.1 (fun z hz => byte_of (H0.2.2.2 z hz)) (by have := H0.2.2.1; unfold maxLen at this; omega)
end Go.Proofs.Ytdbgfejeleafgaa
namespace Go.Proofs.Ytdbgfejeleafgaa
open Go.RowKit Go.ChangeShapes Go.WideShapes Go.Deep Go.Joins
set_option linter.unusedVariables false
section
variable {H : Type} {enc : TypeId × Value → H} {P : Program} {w : World} {base : Nat} {spare : Nat → Bool} {held : Bool}
theorem addr_form {a : Addr} {u : Value} (h : w.cell? (a.add 0) = some u) : ∃ b off, a = ⟨b, off, none⟩ ∧ b < w.heap.size := by
  obtain ⟨b, off, spot⟩ := a
  have e : (⟨b, off, spot⟩ : Addr).add 0 = ⟨b, off, spot⟩ := by simp [Addr.add]
  rw [e] at h
  have hs : spot = none := World.cell?_spot h
  subst hs
  exact ⟨b, off, rfl, World.block_lt_of_cell? w _ h⟩
theorem add_form (b off j : Nat) : (⟨b, off, none⟩ : Addr).add j = ⟨b, off + j, none⟩ := by
  unfold Addr.add
  by_cases h : j = 0
  · subst h; simp
  · simp [h]
theorem open_nums {t e : TypeId} {k : IntKind} {A : Option Addr} {len cap : Nat} {d : DataW H} {p : List MemPlace} (ht : P.underlying t = some (.slice e)) (he : P.underlying e = some (.int k)) (hc : P.cellsOf e = 1)
    (h : DataW.Trod enc P w base spare held t (.slice A len cap) d p) :
    ∃ zs : List Int, zs.length = len ∧ Rd w 1 A len (zs.map (Value.int k)) ∧ len ≤ maxLen ∧ ∀ n ∈ zs, (Lit.int k n).wf = true := by
  obtain ⟨fuel, hf⟩ := h
  rcases open_ints ht he hc hf with ⟨hcs, _⟩ | ⟨x, l, c, zs, hcs, _, hl, hm, hz, _, hcell, hwz⟩
  · simp [Value.cells] at hcs
    obtain ⟨rfl, rfl, rfl⟩ := hcs
    exact ⟨[], rfl, Rd.nil, Nat.zero_le _, fun n hn => by cases hn⟩
  · simp [Value.cells] at hcs
    obtain ⟨rfl, rfl, rfl⟩ := hcs
    have hle : len ≤ zs.length := by rw [hz]; split <;> omega
    refine ⟨zs.take len, by simp; omega, ⟨by simp; omega, fun hn => ?_⟩, by omega, fun n hn => hwz n (List.mem_of_mem_take hn)⟩
    obtain ⟨b, off, rfl, hb⟩ := addr_form (hcell 0 (by omega))
    refine ⟨b, off, rfl, hb, fun j u hu => ?_⟩
    rw [List.getElem?_map, List.getElem?_take] at hu
    split at hu
    · rename_i hj
      have := hcell j (by omega)
      rw [add_form] at this
      rw [this]
      rw [List.getElem?_eq_getElem (by omega)] at hu
      simp at hu
      rw [← hu, List.getD_eq_getElem?_getD, List.getElem?_eq_getElem (by omega)]; rfl
    · simp at hu
end
end Go.Proofs.Ytdbgfejeleafgaa
