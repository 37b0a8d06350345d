/- What is connected with an element, plainly: as a row of marks, and as two rising lists. No program is named here. -/
import Derived.Test.YtnfmdkbelbppdaaValP
import Derived.Test.YtnfmdkbelbppdaaReached
namespace Go.Proofs.Ytnfmdkbelbppdaa
open Go.RowKit
set_option linter.unusedVariables false

noncomputable def rb (E : Int → Int → Prop) (a b : Int) : Bool := decide (0 ≤ distOf E a b)
theorem rb_iff {E : Int → Int → Prop} {a b : Int} : rb E a b = true ↔ Reach E a b := by unfold rb; rw [decide_eq_true_iff, dist_pos]
theorem rb_congr {E : Int → Int → Prop} {a b c : Int} (h : Reach E a b ↔ Reach E a c) : rb E a b = rb E a c := by rw [Bool.eq_iff_iff, rb_iff, rb_iff]; exact h
/-- The marks of the nineteen elements. -/
noncomputable def wetL (E : Int → Int → Prop) (a : Int) : List Bool := (List.range 19).map (fun i => rb E a ((i : Nat) : Int))
theorem wetL_len (E : Int → Int → Prop) (a : Int) : (wetL E a).length = 19 := by simp [wetL]
theorem wetL_at (E : Int → Int → Prop) (a : Int) {i : Nat} (h : i < 19) : (wetL E a)[i]? = some (rb E a (i : Int)) := by simp [wetL, h]
/-- All that the set has is reached. -/
structure FndE (E : Int → Int → Prop) (a : Int) (S : Int → Prop) : Prop where
  h0 : S a
  r : ∀ b, S b → Reach E a b
def okP (q : Pp → Int → Bool) (S : Int → Prop) (j : Nat) (p : Pp) (v : Int) : Prop := q p v = true → (S v ↔ S (9 + (j : Int)))
def shutE (ps : List Pp) (q : Pp → Int → Bool) (S : Int → Prop) (i : Nat) : Prop := ∀ j p, j < i → ps[j]? = some p → okP q S j p p.fr ∧ okP q S j p p.to
theorem shutE_zero (ps : List Pp) (q : Pp → Int → Bool) (S : Int → Prop) : shutE ps q S 0 := fun _ _ h => absurd h (by omega)
theorem shutE.next {ps : List Pp} {q : Pp → Int → Bool} {S : Int → Prop} {i : Nat} {x : Pp} (h : shutE ps q S i) (hx : ps[i]? = some x) (h1 : okP q S i x x.fr) (h2 : okP q S i x x.to) : shutE ps q S (i + 1) := by
  intro j p hj hp
  by_cases e : j = i
  · subst e; rw [hx] at hp; cases hp; exact ⟨h1, h2⟩
  · exact h j p (by omega) hp
theorem FndE.fin {ps : List Pp} {q : Pp → Int → Bool} {a : Int} {S : Int → Prop} (h : FndE (linked ps q) a S) (hc : shutE ps q S ps.length) (b : Int) : S b ↔ Reach (linked ps q) a b := by
  refine ⟨h.r b, fun hr => reach_closed h.h0 (fun b c hb he => ?_) hr⟩
  obtain ⟨i, p, v, hp, hv, hq, he⟩ := he
  have hi : i < ps.length := (List.getElem?_eq_some_iff.1 hp).1
  have hk := hc i p hi hp
  have hk' : S v ↔ S (9 + (i : Int)) := by
    rcases hv with e | e
    · subst e; exact hk.1 hq
    · subst e; exact hk.2 hq
  rcases he with ⟨rfl, rfl⟩ | ⟨rfl, rfl⟩
  · exact hk'.1 hb
  · exact hk'.2 hb
theorem FndE.add {ps : List Pp} {q : Pp → Int → Bool} {a : Int} {S S' : Int → Prop} (h : FndE (linked ps q) a S) {i : Nat} {x : Pp} {v : Int} (hx : ps[i]? = some x) (hv : v = x.fr ∨ v = x.to) (hq : q x v = true) (hone : S v ∨ S (9 + (i : Int)))
    (hS : ∀ b, S' b ↔ S b ∨ b = v ∨ b = 9 + (i : Int)) : FndE (linked ps q) a S' := by
  have l1 : linked ps q v (9 + (i : Int)) := ⟨i, x, v, hx, hv, hq, .inl ⟨rfl, rfl⟩⟩
  have hr : Reach (linked ps q) a v ∧ Reach (linked ps q) a (9 + (i : Int)) := by
    rcases hone with h1 | h1
    · exact ⟨h.r _ h1, reach_step (h.r _ h1) l1⟩
    · exact ⟨reach_step (h.r _ h1) (linked_symm ps q _ _ l1), h.r _ h1⟩
  refine ⟨(hS a).2 (.inl h.h0), fun b hb => ?_⟩
  rcases (hS b).1 hb with h1 | rfl | rfl
  · exact h.r b h1
  · exact hr.1
  · exact hr.2

/-! ### a row of marks -/

def inL (bs : List Bool) (b : Int) : Prop := 0 ≤ b ∧ bs[b.toNat]? = some true
theorem inL_nat {bs : List Bool} {k : Nat} {b : Int} (e : b = (k : Int)) : inL bs b ↔ bs[k]? = some true := by subst e; unfold inL; rw [Int.toNat_natCast]; exact ⟨fun h => h.2, fun h => ⟨by omega, h⟩⟩
theorem inL_set {bs : List Bool} {k : Nat} (hk : k < bs.length) (b : Int) : inL (bs.set k true) b ↔ inL bs b ∨ b = (k : Int) := by
  unfold inL
  by_cases h0 : 0 ≤ b
  · by_cases e : b.toNat = k
    · rw [e, List.getElem?_set_self hk]; exact ⟨fun _ => .inr (by omega), fun _ => ⟨h0, rfl⟩⟩
    · rw [List.getElem?_set_ne (by omega)]; exact ⟨fun h => .inl h, fun h => h.elim id (fun h' => absurd h' (by omega))⟩
  · exact ⟨fun h => absurd h.1 h0, fun h => h.elim (fun h' => absurd h'.1 h0) (fun h' => absurd h' (by omega))⟩
def offs (bs : List Bool) : Nat := bs.countP (fun b => !b)
theorem offs_set : ∀ {bs : List Bool} {i : Nat}, bs[i]? = some false → offs (bs.set i true) + 1 = offs bs
  | [], i, h => by simp at h
  | y :: bs, 0, h => by simp at h; subst h; simp [offs]
  | y :: bs, i + 1, h => by
    have ih := offs_set (bs := bs) (i := i) (by simpa using h)
    unfold offs at ih ⊢
    rw [List.set_cons_succ, List.countP_cons, List.countP_cons, ← ih]
    omega
theorem offs_set_le : ∀ (bs : List Bool) (i : Nat), offs (bs.set i true) ≤ offs bs
  | [], i => by simp
  | y :: bs, 0 => by cases y <;> simp [offs]
  | y :: bs, i + 1 => by
    have ih := offs_set_le bs i
    unfold offs at ih ⊢
    rw [List.set_cons_succ, List.countP_cons, List.countP_cons]
    omega
theorem offs_two {bs : List Bool} {v u : Nat} {x y : Bool} (hx : bs[v]? = some x) (hy : bs[u]? = some y) (hne : x ≠ y) : offs ((bs.set v true).set u true) < offs bs := by
  have h1 := offs_set_le (bs.set v true) u
  cases x with
  | false => have := offs_set hx; omega
  | true =>
    cases y with
    | true => exact absurd rfl hne
    | false =>
      have hvu : v ≠ u := fun e => by subst e; rw [hx] at hy; cases hy
      have := offs_set (bs := bs.set v true) (i := u) (by rw [List.getElem?_set_ne hvu]; exact hy)
      have := offs_set_le bs v
      omega
theorem wetL_of {E : Int → Int → Prop} {a : Int} {bs : List Bool} (hl : bs.length = 19) (h : ∀ b, inL bs b ↔ Reach E a b) : bs = wetL E a := by
  apply List.ext_getElem?
  intro i
  by_cases hi : i < 19
  · rw [wetL_at E a hi]
    have hx : bs[i]? = some bs[i] := List.getElem?_eq_getElem (by omega)
    rw [hx]
    refine congrArg some ?_
    rw [Bool.eq_iff_iff, rb_iff, ← h, inL_nat (k := i) rfl, hx, Option.some.injEq]
  · rw [List.getElem?_eq_none (by omega), List.getElem?_eq_none (by rw [wetL_len]; omega)]
theorem offs_start (k : Nat) : offs ((List.replicate 19 false).set k true) ≤ 19 := by
  have := offs_set_le (List.replicate 19 false) k
  have h : offs (List.replicate 19 false) = 19 := by decide
  omega
theorem inL_start {k : Nat} (hk : k < 19) (b : Int) : inL ((List.replicate 19 false).set k true) b ↔ b = (k : Int) := by
  rw [inL_set (by simpa using hk)]
  constructor
  · rintro (h | h)
    · have := h.2; rw [List.getElem?_replicate] at this; split at this <;> cases this
    · exact h
  · exact .inr
theorem FndE_start {E : Int → Int → Prop} {k : Nat} {a : Int} (hk : k < 19) (e : a = (k : Int)) : FndE E a (inL ((List.replicate 19 false).set k true)) :=
  ⟨(inL_start hk _).2 e, fun b hb => by rw [(inL_start hk b).1 hb, e]; exact reach_refl _ _⟩
theorem FndE.mark {ps : List Pp} {q : Pp → Int → Bool} {a : Int} {bs : List Bool} (h : FndE (linked ps q) a (inL bs)) {i k : Nat} {x : Pp} {v : Int} {b c : Bool} (hx : ps[i]? = some x) (hv : v = x.fr ∨ v = x.to) (hq : q x v = true) (e : v = (k : Int)) (hl : 9 + i < bs.length) (hb : bs[k]? = some b) (hc : bs[9 + i]? = some c) (hne : b ≠ c) :
    FndE (linked ps q) a (inL ((bs.set k true).set (9 + i) true)) := by
  have hk : k < bs.length := (List.getElem?_eq_some_iff.1 hb).1
  refine h.add (v := v) (i := i) hx hv hq ?_ (fun b => ?_)
  · cases b with
    | true => exact .inl ((inL_nat e).2 hb)
    | false =>
      cases c with
      | true => exact .inr ((inL_nat (k := 9 + i) (by omega)).2 hc)
      | false => exact absurd rfl hne
  · rw [inL_set (by rw [List.length_set]; exact hl), inL_set hk, e, or_assoc]
    have : ((9 + i : Nat) : Int) = 9 + (i : Int) := by omega
    rw [this]
theorem okP_same {q : Pp → Int → Bool} {bs : List Bool} {i k : Nat} {x : Pp} {v : Int} {b c : Bool} (e : v = (k : Int)) (hb : bs[k]? = some b) (hc : bs[9 + i]? = some c) (he : b = c) : okP q (inL bs) i x v := fun _ => by
  rw [inL_nat e, inL_nat (k := 9 + i) (by omega), hb, hc, he]
theorem okP_shut {q : Pp → Int → Bool} {S : Int → Prop} {i : Nat} {x : Pp} {v : Int} (h : q x v = false) : okP q S i x v := fun h' => by rw [h] at h'; cases h'

/-! ### two rising lists -/

def upTo (n : Nat) : List Int := (List.range n).map (fun i => ((i : Nat) : Int))
theorem upTo_succ (n : Nat) : upTo (n + 1) = upTo n ++ [(n : Int)] := by unfold upTo; rw [List.range_succ, List.map_append]; rfl
theorem mem_upTo {n : Nat} {b : Int} : b ∈ upTo n ↔ 0 ≤ b ∧ b < n := by
  unfold upTo
  rw [List.mem_map]
  constructor
  · rintro ⟨i, hi, rfl⟩; have := List.mem_range.1 hi; omega
  · rintro ⟨h1, h2⟩; exact ⟨b.toNat, List.mem_range.2 (by omega), by omega⟩
theorem sorted_upTo (n : Nat) : sorted (upTo n) := sorted_map_range _ (fun i j h => by omega) n
theorem upTo_len (n : Nat) : (upTo n).length = n := by simp [upTo]
/-- The nodes, and the indices of the pipes, that are reached, or that are not. -/
noncomputable def nodesL (E : Int → Int → Prop) (m : Nat) (a : Int) (told : Bool) : List Int := (nodesTo m).filter (fun b => rb E a b == told)
noncomputable def idxL (E : Int → Int → Prop) (n : Nat) (a : Int) (told : Bool) : List Int := (upTo n).filter (fun b => rb E a (9 + b) == told)
theorem mem_nodesL {E : Int → Int → Prop} {m : Nat} {a b : Int} {told : Bool} : b ∈ nodesL E m a told ↔ (1 ≤ b ∧ b ≤ m) ∧ rb E a b = told := by unfold nodesL; rw [List.mem_filter, mem_nodesTo, beq_iff_eq]
theorem mem_idxL {E : Int → Int → Prop} {n : Nat} {a b : Int} {told : Bool} : b ∈ idxL E n a told ↔ (0 ≤ b ∧ b < n) ∧ rb E a (9 + b) = told := by unfold idxL; rw [List.mem_filter, mem_upTo, beq_iff_eq]
theorem nodesL_len (E : Int → Int → Prop) (m : Nat) (a : Int) (told : Bool) : (nodesL E m a told).length ≤ m := by
  have := List.length_filter_le (fun b => rb E a b == told) (nodesTo m); rw [nodesTo_len] at this; exact this
theorem idxL_len (E : Int → Int → Prop) (n : Nat) (a : Int) (told : Bool) : (idxL E n a told).length ≤ n := by
  have := List.length_filter_le (fun b => rb E a (9 + b) == told) (upTo n); rw [upTo_len] at this; exact this
def inQ (ys xs : List Int) (b : Int) : Prop := b ∈ ys ∨ (9 ≤ b ∧ b - 9 ∈ xs)
structure FndQ (E : Int → Int → Prop) (m n : Nat) (a : Int) (ys xs : List Int) : Prop where
  s1 : sorted ys
  s2 : sorted xs
  b1 : ∀ b, b ∈ ys → 1 ≤ b ∧ b ≤ m
  b2 : ∀ b, b ∈ xs → 0 ≤ b ∧ b < n
  f : FndE E a (inQ ys xs)
theorem sorted_len0 {zs : List Int} {n : Nat} (h : sorted zs) (hi : ∀ b, b ∈ zs → 0 ≤ b ∧ b < n) : zs.length ≤ n := by
  have := sorted_len (zs := zs.map (· + 1)) (m := n) (by unfold sorted; rw [List.pairwise_map]; exact h.imp (fun h => by omega)) (fun b hb => by
    obtain ⟨c, hc, rfl⟩ := List.mem_map.1 hb
    have := hi c hc; omega)
  rwa [List.length_map] at this
theorem FndQ.len {E : Int → Int → Prop} {m n : Nat} {a : Int} {ys xs : List Int} (h : FndQ E m n a ys xs) : ys.length ≤ m ∧ xs.length ≤ n := ⟨sorted_len h.s1 h.b1, sorted_len0 h.s2 h.b2⟩
theorem FndQ.startN (E : Int → Int → Prop) {m n : Nat} {a : Int} (ha : 1 ≤ a ∧ a ≤ m) : FndQ E m n a [a] [] :=
  ⟨by simp [sorted], by simp [sorted], fun b hb => by simp at hb; omega, fun b hb => by simp at hb, ⟨.inl (by simp), fun b hb => by rcases hb with hb | hb <;> simp at hb; subst hb; exact reach_refl _ _⟩⟩
theorem FndQ.startP (E : Int → Int → Prop) {m n : Nat} {a : Int} (ha : 0 ≤ a ∧ a < n) : FndQ E m n (9 + a) [] [a] :=
  ⟨by simp [sorted], by simp [sorted], fun b hb => by simp at hb, fun b hb => by simp at hb; omega, ⟨.inr ⟨by omega, by simp; omega⟩, fun b hb => by
    rcases hb with hb | hb
    · simp at hb
    · have := hb.2; simp at this; rw [show b = 9 + a by omega]; exact reach_refl _ _⟩⟩
theorem inQ_node {ys xs : List Int} {m : Nat} {v : Int} (hm : m ≤ 8) (hv : v ≤ m) : inQ ys xs v ↔ v ∈ ys := ⟨fun h => h.elim id (fun h' => absurd h'.1 (by omega)), .inl⟩
theorem inQ_pipe {ys xs : List Int} {m i : Nat} (hm : m ≤ 8) (hb : ∀ b, b ∈ ys → 1 ≤ b ∧ b ≤ m) : inQ ys xs (9 + (i : Int)) ↔ (i : Int) ∈ xs := by
  have e : 9 + (i : Int) - 9 = i := by omega
  constructor
  · rintro (h | ⟨_, h⟩)
    · have := hb _ h; omega
    · rwa [e] at h
  · intro h; exact .inr ⟨by omega, by rwa [e]⟩
theorem FndQ.put {ps : List Pp} {q : Pp → Int → Bool} {m : Nat} {a : Int} {ys xs : List Int} (h : FndQ (linked ps q) m ps.length a ys xs) (hm : m ≤ 8) {i : Nat} {x : Pp} {v : Int} (hx : ps[i]? = some x) (hv : v = x.fr ∨ v = x.to) (hin : 1 ≤ v ∧ v ≤ m) (hq : q x v = true) (hne : ys.contains v ≠ xs.contains (i : Int)) :
    FndQ (linked ps q) m ps.length a (putL ys v) (putL xs (i : Int)) := by
  have hi : i < ps.length := (List.getElem?_eq_some_iff.1 hx).1
  refine ⟨sorted_putL _ _ h.s1, sorted_putL _ _ h.s2, fun b hb => ?_, fun b hb => ?_, h.f.add hx hv hq ?_ (fun b => ?_)⟩
  · rcases (mem_putL _ _ _).1 hb with rfl | hb
    · exact hin
    · exact h.b1 b hb
  · rcases (mem_putL _ _ _).1 hb with rfl | hb
    · omega
    · exact h.b2 b hb
  · rw [inQ_node hm hin.2, inQ_pipe hm h.b1]
    by_cases h1 : v ∈ ys
    · exact .inl h1
    · by_cases h2 : (i : Int) ∈ xs
      · exact .inr h2
      · exact absurd (by rw [show ys.contains v = false by simpa using h1, show xs.contains (i : Int) = false by simpa using h2]) hne
  · unfold inQ
    rw [mem_putL, mem_putL]
    constructor
    · rintro ((h | h) | ⟨h1, h2 | h2⟩)
      · exact .inr (.inl h)
      · exact .inl (.inl h)
      · exact .inr (.inr (by omega))
      · exact .inl (.inr ⟨h1, h2⟩)
    · rintro ((h | h) | h | h)
      · exact .inl (.inr h)
      · exact .inr ⟨h.1, .inr h.2⟩
      · exact .inl (.inl h)
      · exact .inr ⟨by omega, .inl (by omega)⟩
theorem put2_len2 {ys xs : List Int} {v i : Int} (h : ys.contains v ≠ xs.contains i) : ys.length + xs.length < (putL ys v).length + (putL xs i).length := by
  have h1 := putL_len_ge ys v
  have h2 := putL_len_ge xs i
  by_cases ha : v ∈ ys
  · have hc : i ∉ xs := fun hc => h (by rw [List.contains_iff_mem.2 ha, List.contains_iff_mem.2 hc])
    have := putL_len hc; omega
  · have := putL_len ha; omega
theorem okQ_same {q : Pp → Int → Bool} {m : Nat} {ys xs : List Int} {i : Nat} {x : Pp} {v : Int} (hm : m ≤ 8) (hb : ∀ b, b ∈ ys → 1 ≤ b ∧ b ≤ m) (hin : 1 ≤ v ∧ v ≤ m) (he : ys.contains v = xs.contains (i : Int)) : okP q (inQ ys xs) i x v := fun _ => by
  rw [inQ_node hm hin.2, inQ_pipe hm hb, ← List.contains_iff_mem, ← List.contains_iff_mem, he]
theorem FndQ.fin {ps : List Pp} {q : Pp → Int → Bool} {m : Nat} {a : Int} {ys xs : List Int} (h : FndQ (linked ps q) m ps.length a ys xs) (hm : m ≤ 8) (hc : shutE ps q (inQ ys xs) ps.length) :
    ys = nodesL (linked ps q) m a true ∧ xs = idxL (linked ps q) ps.length a true := by
  have hf := h.f.fin hc
  refine ⟨sorted_ext _ _ h.s1 (sorted_filter _ (sorted_nodesTo m)) (fun b => ?_), sorted_ext _ _ h.s2 (sorted_filter _ (sorted_upTo _)) (fun b => ?_)⟩
  · show b ∈ ys ↔ b ∈ nodesL _ m a true
    rw [mem_nodesL, rb_iff, ← hf]
    constructor
    · intro hb; exact ⟨h.b1 b hb, .inl hb⟩
    · rintro ⟨h1, h2⟩; exact (inQ_node hm h1.2).1 h2
  · show b ∈ xs ↔ b ∈ idxL _ ps.length a true
    rw [mem_idxL, rb_iff, ← hf]
    constructor
    · intro hb
      have := h.b2 b hb
      exact ⟨this, .inr ⟨by omega, by rwa [show 9 + b - 9 = b by omega]⟩⟩
    · rintro ⟨h1, h2⟩
      obtain ⟨i, rfl⟩ : ∃ i : Nat, b = (i : Int) := ⟨b.toNat, by omega⟩
      exact (inQ_pipe hm h.b1).1 h2
/-- The numbers of the pipes at indices. -/
def idsAt (ps : List Pp) (xs : List Int) : List Int := xs.map (fun i => match ps[i.toNat]? with | some p => p.id | none => 0)
theorem idsAt_len (ps : List Pp) (xs : List Int) : (idsAt ps xs).length = xs.length := by simp [idsAt]
theorem idsAt_snoc {ps : List Pp} {xs : List Int} {i : Nat} {p : Pp} (hp : ps[i]? = some p) : idsAt ps (xs ++ [(i : Int)]) = idsAt ps xs ++ [p.id] := by simp [idsAt, hp]
theorem nodesL_succ (E : Int → Int → Prop) (m : Nat) (a : Int) (told : Bool) : nodesL E (m + 1) a told = nodesL E m a told ++ (if rb E a ((m : Int) + 1) = told then [(m : Int) + 1] else []) := by
  unfold nodesL; rw [nodesTo_succ, List.filter_append]; congr 1
  by_cases h : rb E a ((m : Int) + 1) = told
  · rw [if_pos h, List.filter_cons_of_pos (by simpa using h)]; rfl
  · rw [if_neg h, List.filter_cons_of_neg (by simpa using h)]; rfl
theorem idxL_succ (E : Int → Int → Prop) (n : Nat) (a : Int) (told : Bool) : idxL E (n + 1) a told = idxL E n a told ++ (if rb E a (9 + (n : Int)) = told then [(n : Int)] else []) := by
  unfold idxL; rw [upTo_succ, List.filter_append]; congr 1
  by_cases h : rb E a (9 + (n : Int)) = told
  · rw [if_pos h, List.filter_cons_of_pos (by simpa using h)]; rfl
  · rw [if_neg h, List.filter_cons_of_neg (by simpa using h)]; rfl

end Go.Proofs.Ytnfmdkbelbppdaa
