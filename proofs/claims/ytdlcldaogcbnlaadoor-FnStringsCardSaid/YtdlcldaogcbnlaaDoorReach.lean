/- Plain lists, ways over pipes, distances, the two searches. No program is named here. -/
import Derived.Test.YtdlcldaogcbnlaaDoorMem
namespace Go.Proofs.YtdlcldaogcbnlaaDoor
open Go.RowKit
set_option linter.unusedVariables false

/-! ### lists and indices -/
theorem has_yes {zs : List Int} {k : Nat} {x v : Int} (h : zs[k]? = some x) (e : x = v) : true = zs.contains v := by
  subst e; exact (List.contains_iff_mem.2 (List.mem_of_getElem? h)).symm
theorem has_no {zs : List Int} {v : Int} {n k : Nat} (hl : zs.length = n) (h : ∀ j z, j < k → zs[j]? = some z → z ≠ v) (hk : n ≤ k) : false = zs.contains v := by
  cases hc : zs.contains v with
  | false => rfl
  | true =>
    obtain ⟨j, hj, e⟩ := List.getElem_of_mem (List.contains_iff_mem.1 hc)
    exact absurd e (h j zs[j] (by omega) (List.getElem?_eq_getElem hj))
/-- One index more. -/
theorem upto_succ {α : Type} {zs : List α} {k : Nat} {x : α} {Q : α → Prop} (h : ∀ j z, j < k → zs[j]? = some z → Q z) (hx : zs[k]? = some x) (hq : Q x) : ∀ j z, j < k + 1 → zs[j]? = some z → Q z := by
  intro j z hj hz
  by_cases e : j = k
  · subst e; rw [hx] at hz; cases hz; exact hq
  · exact h j z (by omega) hz
theorem upto_zero {α : Type} {zs : List α} {Q : α → Prop} : ∀ j z, j < 0 → zs[j]? = some z → Q z := fun _ _ h => absurd h (by omega)
/-! ### sorted lists -/

def sorted (zs : List Int) : Prop := zs.Pairwise (· < ·)

theorem sorted_ext : ∀ (xs ys : List Int), sorted xs → sorted ys → (∀ b, b ∈ xs ↔ b ∈ ys) → xs = ys
  | [], [], _, _, _ => rfl
  | [], y :: ys, _, _, h => by have := (h y).2 (by simp); cases this
  | x :: xs, [], _, _, h => by have := (h x).1 (by simp); cases this
  | x :: xs, y :: ys, hx, hy, h => by
    have hx' := List.pairwise_cons.1 hx
    have hy' := List.pairwise_cons.1 hy
    have e : x = y := by
      have h1 := (h x).1 (by simp)
      have h2 := (h y).2 (by simp)
      rcases List.mem_cons.1 h1 with h1 | h1
      · exact h1
      · rcases List.mem_cons.1 h2 with h2 | h2
        · exact h2.symm
        · have := hx'.1 y h2
          have := hy'.1 x h1
          omega
    subst e
    rw [sorted_ext xs ys hx'.2 hy'.2 (fun b => ?_)]
    constructor
    · intro hb
      have := (h b).1 (by simp [hb])
      rcases List.mem_cons.1 this with e | e
      · subst e; have := hx'.1 b hb; omega
      · exact e
    · intro hb
      have := (h b).2 (by simp [hb])
      rcases List.mem_cons.1 this with e | e
      · subst e; have := hy'.1 b hb; omega
      · exact e

/-- A number put to its place, once. -/
def putL : List Int → Int → List Int
  | [], n => [n]
  | z :: zs, n => if z < n then z :: putL zs n else if z = n then z :: zs else n :: z :: zs
theorem mem_putL (b n : Int) : ∀ zs : List Int, b ∈ putL zs n ↔ b = n ∨ b ∈ zs
  | [] => by simp [putL]
  | z :: zs => by
    unfold putL
    by_cases h : z < n
    · rw [if_pos h, List.mem_cons, mem_putL b n zs, List.mem_cons]; constructor <;> (intro h; rcases h with h | h | h <;> simp [h])
    · rw [if_neg h]
      by_cases e : z = n
      · subst e; rw [if_pos rfl]; simp
      · rw [if_neg e]; simp
theorem sorted_putL (n : Int) : ∀ zs : List Int, sorted zs → sorted (putL zs n)
  | [], _ => by simp [putL, sorted]
  | z :: zs, h => by
    have h' := List.pairwise_cons.1 h
    unfold putL
    by_cases hlt : z < n
    · rw [if_pos hlt]
      refine List.pairwise_cons.2 ⟨fun b hb => ?_, sorted_putL n zs h'.2⟩
      rcases (mem_putL b n zs).1 hb with e | e
      · omega
      · exact h'.1 b e
    · rw [if_neg hlt]
      by_cases e : z = n
      · rw [if_pos e]; exact h
      · rw [if_neg e]
        refine List.pairwise_cons.2 ⟨fun b hb => ?_, h⟩
        rcases List.mem_cons.1 hb with e' | e'
        · omega
        · have := h'.1 b e'; omega
/-- How the program finds the place. -/
theorem putL_at (n : Int) : ∀ (zs : List Int) (k : Nat), (∀ j z, j < k → zs[j]? = some z → z < n) → k ≤ zs.length → (∀ z, zs[k]? = some z → ¬ z < n) →
    putL zs n = if zs[k]? = some n then zs else zs.take k ++ n :: zs.drop k
  | [], k, _, hk, _ => by
    have e : k = 0 := by simpa using hk
    subst e; simp [putL]
  | z :: zs, 0, _, _, h => by
    have := h z (by simp)
    unfold putL
    rw [if_neg this]
    by_cases e : z = n
    · subst e; simp
    · rw [if_neg e, if_neg (by simpa using e)]; rfl
  | z :: zs, k + 1, hj, hk, h => by
    have h0 := hj 0 z (by omega) (by simp)
    have ih := putL_at n zs k (fun j y h1 h2 => hj (j + 1) y (by omega) (by simpa using h2)) (by simpa using hk) (fun y hy => h y (by simpa using hy))
    unfold putL
    rw [if_pos h0, ih]
    by_cases e : zs[k]? = some n
    · rw [if_pos e, if_pos (by simpa using e)]
    · rw [if_neg e, if_neg (by simpa using e)]; rfl

/-! ### ways over pipes -/

def Symm (E : Int → Int → Prop) : Prop := ∀ a b, E a b → E b a
/-- A way of so many pipes. -/
inductive Walk (E : Int → Int → Prop) (a : Int) : Nat → Int → Prop
  | here : Walk E a 0 a
  | step {k : Nat} {b c : Int} : Walk E a k b → E b c → Walk E a (k + 1) c
theorem walk_trans {E : Int → Int → Prop} {a b : Int} {k : Nat} (h : Walk E a k b) {c : Int} {j : Nat} (h' : Walk E b j c) : Walk E a (k + j) c := by
  induction h' with
  | here => exact h
  | step _ e ih => exact .step ih e
theorem walk_symm {E : Int → Int → Prop} (hE : Symm E) {a b : Int} {k : Nat} (h : Walk E a k b) : Walk E b k a := by
  induction h with
  | here => exact .here
  | step _ e ih => rename_i k x y _; have := walk_trans (Walk.step (.here (a := y)) (hE _ _ e)) ih; rwa [show 0 + 1 + k = k + 1 by omega] at this
def Reach (E : Int → Int → Prop) (a b : Int) : Prop := ∃ k, Walk E a k b
theorem reach_refl (E : Int → Int → Prop) (a : Int) : Reach E a a := ⟨0, .here⟩
theorem reach_step {E : Int → Int → Prop} {a b c : Int} (h : Reach E a b) (e : E b c) : Reach E a c := let ⟨k, hk⟩ := h; ⟨k + 1, .step hk e⟩
theorem reach_symm {E : Int → Int → Prop} (hE : Symm E) {a b : Int} (h : Reach E a b) : Reach E b a := let ⟨k, hk⟩ := h; ⟨k, walk_symm hE hk⟩
theorem reach_trans {E : Int → Int → Prop} {a b c : Int} (h : Reach E a b) (h' : Reach E b c) : Reach E a c := let ⟨k, hk⟩ := h; let ⟨j, hj⟩ := h'; ⟨k + j, walk_trans hk hj⟩
/-- What holds at the start and passes along pipes holds of all that is reached. -/
theorem reach_closed {E : Int → Int → Prop} {a : Int} {S : Int → Prop} (h0 : S a) (hs : ∀ b c, S b → E b c → S c) {b : Int} (h : Reach E a b) : S b := by
  obtain ⟨k, hk⟩ := h
  induction hk with
  | here => exact h0
  | step _ e ih => exact hs _ _ ih e

theorem least_of (Q : Nat → Prop) : ∀ k, Q k → ∃ j, Q j ∧ ∀ i, Q i → j ≤ i := by
  intro k
  induction k using Nat.strongRecOn with
  | _ k ih =>
    intro hk
    by_cases h : ∃ i, i < k ∧ Q i
    · obtain ⟨i, hi, hq⟩ := h; exact ih i hi hq
    · exact ⟨k, hk, fun i hi => Nat.le_of_not_lt (fun hlt => h ⟨i, hlt, hi⟩)⟩
open Classical in
/-- The length of the shortest way, -1 if there is none. -/
noncomputable def distOf (E : Int → Int → Prop) (a b : Int) : Int := if h : ∃ k : Nat, Walk E a k b ∧ ∀ j, Walk E a j b → k ≤ j then ((Classical.choose h : Nat) : Int) else -1
theorem dist_eq {E : Int → Int → Prop} {a b : Int} {k : Nat} (h : Walk E a k b) (hl : ∀ j, Walk E a j b → k ≤ j) : distOf E a b = k := by
  have hx : ∃ k : Nat, Walk E a k b ∧ ∀ j, Walk E a j b → k ≤ j := ⟨k, h, hl⟩
  unfold distOf
  rw [dif_pos hx]
  have h1 := (Classical.choose_spec hx).1
  have h2 := (Classical.choose_spec hx).2
  have := hl _ h1
  have := h2 _ h
  omega
theorem dist_none {E : Int → Int → Prop} {a b : Int} (h : ¬ Reach E a b) : distOf E a b = -1 := by
  unfold distOf
  rw [dif_neg]
  rintro ⟨k, hk, _⟩
  exact h ⟨k, hk⟩
theorem dist_some {E : Int → Int → Prop} {a b : Int} (h : Reach E a b) : ∃ k : Nat, distOf E a b = k ∧ Walk E a k b ∧ ∀ j, Walk E a j b → k ≤ j := by
  obtain ⟨k, hk⟩ := h
  obtain ⟨j, hj, hl⟩ := least_of (fun k => Walk E a k b) k hk
  exact ⟨j, dist_eq hj hl, hj, hl⟩
theorem dist_pos {E : Int → Int → Prop} {a b : Int} : 0 ≤ distOf E a b ↔ Reach E a b := by
  constructor
  · intro h
    by_cases hr : Reach E a b
    · exact hr
    · rw [dist_none hr] at h; omega
  · intro h
    obtain ⟨k, hk, _⟩ := dist_some h
    omega
theorem dist_self (E : Int → Int → Prop) (a : Int) : distOf E a a = 0 := dist_eq (k := 0) .here (fun _ _ => Nat.zero_le _)
theorem dist_ge (E : Int → Int → Prop) (a b : Int) : -1 ≤ distOf E a b := by
  by_cases hr : Reach E a b
  · obtain ⟨k, hk, _⟩ := dist_some hr; omega
  · rw [dist_none hr]; omega
theorem dist_symm {E : Int → Int → Prop} (hE : Symm E) (a b : Int) : distOf E a b = distOf E b a := by
  by_cases hr : Reach E a b
  · obtain ⟨k, hk, hw, hl⟩ := dist_some hr
    rw [hk, dist_eq (walk_symm hE hw) (fun j hj => hl j (walk_symm hE hj))]
  · rw [dist_none hr, dist_none (fun h => hr (reach_symm hE h))]
theorem dist_join {E : Int → Int → Prop} {a b c : Int} (h : 0 ≤ distOf E a b) (e : E b c) : 0 ≤ distOf E a c ∧ distOf E a c ≤ distOf E a b + 1 := by
  obtain ⟨k, hk, hw, _⟩ := dist_some (dist_pos.1 h)
  obtain ⟨j, hj, _, hl⟩ := dist_some (⟨k + 1, .step hw e⟩ : Reach E a c)
  have := hl _ (.step hw e)
  omega
/-- A way that is longer than none has a last pipe: a node one nearer. -/
theorem dist_prev {E : Int → Int → Prop} (hE : Symm E) {a b : Int} (h : 0 < distOf E a b) : ∃ c, E b c ∧ distOf E a c = distOf E a b - 1 := by
  obtain ⟨k, hk, hw, hl⟩ := dist_some (dist_pos.1 (by omega : 0 ≤ distOf E a b))
  cases hw with
  | here => omega
  | step hw' e =>
    rename_i j c
    refine ⟨c, hE _ _ e, ?_⟩
    have hc := dist_eq hw' (fun i hi => by have := hl _ (.step hi e); omega)
    rw [hc, hk]; omega
theorem dist_zero {E : Int → Int → Prop} {a b : Int} (h : distOf E a b = 0) : b = a := by
  obtain ⟨k, hk, hw, _⟩ := dist_some (dist_pos.1 (by omega : 0 ≤ distOf E a b))
  cases hw with
  | here => rfl
  | step _ _ => omega
/-- A labelling with these four properties is the distance. -/
theorem dist_of_labels {E : Int → Int → Prop} {a : Int} (far : Int → Int) (h1 : ∀ b, 0 ≤ far b → Walk E a (far b).toNat b) (h2 : far a = 0)
    (h3 : ∀ u v, E u v → 0 ≤ far u → 0 ≤ far v ∧ far v ≤ far u + 1) (h4 : ∀ b, -1 ≤ far b) (b : Int) : far b = distOf E a b := by
  have key : ∀ k b, Walk E a k b → 0 ≤ far b ∧ far b ≤ k := by
    intro k b hk
    induction hk with
    | here => omega
    | step _ e ih => have := h3 _ _ e ih.1; omega
  by_cases hr : 0 ≤ far b
  · have hw := h1 b hr
    rw [dist_eq hw (fun j hj => by have := key j b hj; omega)]
    omega
  · rw [dist_none (fun h => by obtain ⟨k, hk⟩ := h; have := key k b hk; omega)]
    have := h4 b; omega

/-! ### what the functions hand back -/

/-- The nodes 1 to m. -/
def nodesTo (m : Nat) : List Int := (List.range m).map (fun i => ((i : Nat) : Int) + 1)
theorem mem_nodesTo {m : Nat} {b : Int} : b ∈ nodesTo m ↔ 1 ≤ b ∧ b ≤ m := by
  unfold nodesTo
  rw [List.mem_map]
  constructor
  · rintro ⟨i, hi, rfl⟩; have := List.mem_range.1 hi; omega
  · rintro ⟨h1, h2⟩; exact ⟨(b - 1).toNat, List.mem_range.2 (by omega), by omega⟩
theorem sorted_map_range (f : Nat → Int) (hf : ∀ i j, i < j → f i < f j) (m : Nat) : sorted ((List.range m).map f) := by
  unfold sorted
  rw [List.pairwise_map]
  exact List.pairwise_lt_range.imp (fun h => hf _ _ h)
theorem sorted_nodesTo (m : Nat) : sorted (nodesTo m) := sorted_map_range _ (fun i j h => by omega) m
theorem sorted_filter {zs : List Int} (q : Int → Bool) (h : sorted zs) : sorted (zs.filter q) := List.Pairwise.filter q h
theorem nodesTo_len (m : Nat) : (nodesTo m).length = m := by simp [nodesTo]
theorem nodesTo_succ (m : Nat) : nodesTo (m + 1) = nodesTo m ++ [(m : Int) + 1] := by unfold nodesTo; rw [List.range_succ, List.map_append]; rfl
noncomputable def reachList (E : Int → Int → Prop) (m : Nat) (a : Int) : List Int := (nodesTo m).filter (fun b => decide (0 ≤ distOf E a b))
theorem sorted_reachList (E : Int → Int → Prop) (m : Nat) (a : Int) : sorted (reachList E m a) := sorted_filter _ (sorted_nodesTo m)
theorem mem_reachList {E : Int → Int → Prop} {m : Nat} {a b : Int} : b ∈ reachList E m a ↔ (1 ≤ b ∧ b ≤ m) ∧ Reach E a b := by
  unfold reachList
  rw [List.mem_filter, mem_nodesTo, decide_eq_true_iff, dist_pos]
theorem reachList_len (E : Int → Int → Prop) (m : Nat) (a : Int) : (reachList E m a).length ≤ m := by
  unfold reachList
  have := List.length_filter_le (fun b => decide (0 ≤ distOf E a b)) (nodesTo m)
  rw [nodesTo_len] at this; exact this
/-- All that is joined lies between 1 and m. -/
def endsIn (E : Int → Int → Prop) (m : Nat) : Prop := ∀ a b, E a b → (1 ≤ a ∧ a ≤ m) ∧ (1 ≤ b ∧ b ≤ m)
theorem reach_in {E : Int → Int → Prop} {m : Nat} (h : endsIn E m) {a b : Int} (ha : 1 ≤ a ∧ a ≤ m) (hr : Reach E a b) : 1 ≤ b ∧ b ≤ m :=
  reach_closed (S := fun b => 1 ≤ b ∧ b ≤ m) ha (fun _ _ _ e => (h _ _ e).2) hr
/-- A sorted list that holds the start, only what is reached, and is closed. -/
theorem reachList_of {E : Int → Int → Prop} {m : Nat} (h : endsIn E m) {a : Int} (ha : 1 ≤ a ∧ a ≤ m) {zs : List Int} (hs : sorted zs) (h0 : a ∈ zs) (hr : ∀ b, b ∈ zs → Reach E a b)
    (hc : ∀ b c, b ∈ zs → E b c → c ∈ zs) : zs = reachList E m a := by
  refine sorted_ext _ _ hs (sorted_reachList E m a) (fun b => ?_)
  rw [mem_reachList]
  constructor
  · intro hb; exact ⟨reach_in h ha (hr b hb), hr b hb⟩
  · rintro ⟨_, hb⟩
    exact reach_closed (S := fun b => b ∈ zs) h0 (fun b c hb e => hc b c hb e) hb
theorem sorted_len {zs : List Int} {m : Nat} (h : sorted zs) (hi : ∀ b, b ∈ zs → 1 ≤ b ∧ b ≤ m) : zs.length ≤ m := by
  have hp : ∀ (zs : List Int) (lo : Int), sorted zs → (∀ b, b ∈ zs → lo < b ∧ b ≤ m) → (zs.length : Int) ≤ max ((m : Int) - lo) 0 := by
    intro zs
    induction zs with
    | nil => intro lo _ _; simp; omega
    | cons z zs ih =>
      intro lo hs hb
      have h' := List.pairwise_cons.1 hs
      have hz := hb z (by simp)
      have := ih z h'.2 (fun b hb' => ⟨h'.1 b hb', (hb b (by simp [hb'])).2⟩)
      simp; omega
  have := hp zs 0 h (fun b hb => by have := hi b hb; omega)
  omega

theorem putL_len {n : Int} : ∀ {zs : List Int}, n ∉ zs → (putL zs n).length = zs.length + 1
  | [], _ => rfl
  | z :: zs, h => by
    have h1 : ¬ z = n := fun e => h (by simp [e])
    have h2 : n ∉ zs := fun e => h (by simp [e])
    unfold putL
    by_cases hlt : z < n
    · rw [if_pos hlt, List.length_cons, putL_len h2, List.length_cons]
    · rw [if_neg hlt, if_neg h1]; rfl
/-- No shortest way is as long as there are nodes. -/
theorem dist_lt {E : Int → Int → Prop} (hE : Symm E) {m : Nat} (h : endsIn E m) {a : Int} (ha : 1 ≤ a ∧ a ≤ m) (b : Int) : distOf E a b < m := by
  have key : ∀ (k : Nat) (b : Int), distOf E a b = k → ∃ zs, sorted zs ∧ zs.length = k + 1 ∧ ∀ c, c ∈ zs → 0 ≤ distOf E a c ∧ distOf E a c ≤ k := by
    intro k
    induction k with
    | zero => intro b hb; exact ⟨[b], by simp [sorted], rfl, fun c hc => by simp at hc; subst hc; omega⟩
    | succ k ih =>
      intro b hb
      obtain ⟨c, _, hc⟩ := dist_prev hE (by omega : 0 < distOf E a b)
      obtain ⟨zs, hs, hl, hz⟩ := ih c (by omega)
      have hn : b ∉ zs := fun hm => by have := hz b hm; omega
      refine ⟨putL zs b, sorted_putL b zs hs, by rw [putL_len hn, hl], fun d hd => ?_⟩
      rcases (mem_putL d b zs).1 hd with e | e
      · subst e; omega
      · have := hz d e; omega
  by_cases hr : 0 ≤ distOf E a b
  · obtain ⟨zs, hs, hl, hz⟩ := key (distOf E a b).toNat b (by omega)
    have := sorted_len (m := m) hs (fun c hc => reach_in h ha (dist_pos.1 (hz c hc).1))
    omega
  · omega

/-! ### pipes -/

/-- A pipe has these two ends. -/
def Pp.ends (p : Pp) (a b : Int) : Prop := (p.fr = a ∧ p.to = b) ∨ (p.fr = b ∧ p.to = a)
def joined (ps : List Pp) (a b : Int) : Prop := ∃ p, p ∈ ps ∧ p.ends a b
theorem joined_symm (ps : List Pp) : Symm (joined ps) := by
  rintro a b ⟨p, hp, h | h⟩
  · exact ⟨p, hp, .inr h⟩
  · exact ⟨p, hp, .inl h⟩
/-- The end of a pipe that is not this one, 0 if this is none of its ends. -/
def otherOf (p : Pp) (u : Int) : Int := if u = p.fr then p.to else if u = p.to then p.fr else 0
theorem other_ends {p : Pp} {u : Int} (h : 0 < otherOf p u) : p.ends u (otherOf p u) := by
  unfold otherOf at h ⊢
  by_cases h1 : u = p.fr
  · rw [if_pos h1]; exact .inl ⟨h1.symm, rfl⟩
  · rw [if_neg h1] at h ⊢
    by_cases h2 : u = p.to
    · rw [if_pos h2]; exact .inr ⟨rfl, h2.symm⟩
    · rw [if_neg h2] at h; omega
theorem ends_other {p : Pp} {u v : Int} (hd : p.fr ≠ p.to) (h : p.ends u v) : otherOf p u = v := by
  unfold otherOf
  rcases h with ⟨rfl, rfl⟩ | ⟨rfl, rfl⟩
  · rw [if_pos rfl]
  · rw [if_neg (fun e => hd e.symm), if_pos rfl]
/-- All pipes' ends are nodes, and are two. -/
def pipesIn (ps : List Pp) (m : Nat) : Prop := ∀ p, p ∈ ps → (1 ≤ p.fr ∧ p.fr ≤ m) ∧ (1 ≤ p.to ∧ p.to ≤ m) ∧ p.fr ≠ p.to
theorem joined_in {ps : List Pp} {m : Nat} (h : pipesIn ps m) : endsIn (joined ps) m := by
  rintro a b ⟨p, hp, ⟨rfl, rfl⟩ | ⟨rfl, rfl⟩⟩
  · exact ⟨(h p hp).1, (h p hp).2.1⟩
  · exact ⟨(h p hp).2.1, (h p hp).1⟩
/-- The pipes but those with a number. -/
def without (ps : List Pp) (id : Int) : List Pp := ps.filter (fun p => decide (p.id ≠ id))
theorem mem_without {ps : List Pp} {id : Int} {p : Pp} : p ∈ without ps id ↔ p ∈ ps ∧ p.id ≠ id := by unfold without; rw [List.mem_filter, decide_eq_true_iff]
theorem without_none {ps : List Pp} {id : Int} (h : ∀ p, p ∈ ps → p.id ≠ id) : without ps id = ps := List.filter_eq_self.2 (fun p hp => decide_eq_true (h p hp))
theorem pipesIn_without {ps : List Pp} {m : Nat} (h : pipesIn ps m) (id : Int) : pipesIn (without ps id) m := fun p hp => h p (mem_without.1 hp).1

/-! ### labels -/

def lab (out : List Int) (b : Int) : Int := if 0 ≤ b then out.getD b.toNat (-1) else -1
theorem lab_at {out : List Int} {i : Nat} {z : Int} (h : out[i]? = some z) : lab out (i : Int) = z := by unfold lab; rw [if_pos (by omega)]; simp [h]
theorem lab_get {out : List Int} {b : Int} (h0 : 0 ≤ b) (h1 : b < out.length) : out[b.toNat]? = some (lab out b) := by
  unfold lab; rw [if_pos h0, List.getD_eq_getElem?_getD, List.getElem?_eq_getElem (by omega)]; rfl
theorem lab_out {out : List Int} {b : Int} (h : b < 0 ∨ (out.length : Int) ≤ b) : lab out b = -1 := by
  unfold lab
  by_cases h0 : 0 ≤ b
  · rw [if_pos h0, List.getD_eq_getElem?_getD, List.getElem?_eq_none (by omega)]; rfl
  · rw [if_neg h0]
theorem lab_set {out : List Int} {b v : Int} (h0 : 0 ≤ b) (h1 : b < out.length) (c : Int) : lab (out.set b.toNat v) c = if c = b then v else lab out c := by
  by_cases e : c = b
  · subst e
    rw [if_pos rfl]; unfold lab
    rw [if_pos h0, List.getD_eq_getElem?_getD, List.getElem?_set_self (by omega)]; rfl
  · rw [if_neg e]
    unfold lab
    by_cases hc : 0 ≤ c
    · rw [if_pos hc, if_pos hc, List.getD_eq_getElem?_getD, List.getElem?_set_ne (by omega), List.getD_eq_getElem?_getD]
    · rw [if_neg hc, if_neg hc]
/-- The distances of all nodes from one, in a row. -/
noncomputable def distList (E : Int → Int → Prop) (m : Nat) (a : Int) : List Int := (List.range (m + 1)).map (fun i => distOf E a ((i : Nat) : Int))
theorem distList_len (E : Int → Int → Prop) (m : Nat) (a : Int) : (distList E m a).length = m + 1 := by simp [distList]
theorem distList_at (E : Int → Int → Prop) (m : Nat) (a : Int) {i : Nat} (h : i < m + 1) : (distList E m a)[i]? = some (distOf E a (i : Int)) := by simp [distList, h]
theorem distList_of {E : Int → Int → Prop} {m : Nat} {a : Int} {out : List Int} (hl : out.length = m + 1) (h : ∀ b, lab out b = distOf E a b) : out = distList E m a := by
  apply List.ext_getElem?
  intro i
  by_cases hi : i < m + 1
  · rw [distList_at E m a hi, ← h (i : Int)]
    have := lab_get (out := out) (b := (i : Int)) (by omega) (by omega)
    simpa using this
  · rw [List.getElem?_eq_none (by omega), List.getElem?_eq_none (by rw [distList_len]; omega)]

/-! ### the search by a queue -/

/-- How many have no label. -/
def bare (out : List Int) : Nat := out.countP (fun z => decide (z < 0))
theorem bare_set : ∀ {out : List Int} {i : Nat} {z v : Int}, out[i]? = some z → z < 0 → 0 ≤ v → bare (out.set i v) + 1 = bare out
  | [], i, _, _, h, _, _ => by simp at h
  | y :: out, 0, z, v, h, hz, hv => by
    simp at h; subst h
    unfold bare
    rw [List.set_cons_zero, List.countP_cons_of_neg (by simp; omega), List.countP_cons_of_pos (by simp; omega)]
  | y :: out, i + 1, z, v, h, hz, hv => by
    have ih := bare_set (out := out) (i := i) (by simpa using h) hz hv
    unfold bare at ih ⊢
    rw [List.set_cons_succ, List.countP_cons, List.countP_cons, ← ih]
    omega
structure Bfs (E : Int → Int → Prop) (m : Nat) (a : Int) (out q : List Int) : Prop where
  len : out.length = m + 1
  low : ∀ b, -1 ≤ lab out b
  start : lab out a = 0
  walk : ∀ b, 0 ≤ lab out b → Walk E a (lab out b).toNat b
  inq : ∀ u, u ∈ q → 0 ≤ lab out u
  done : ∀ u v, 0 ≤ lab out u → u ∉ q → E u v → 0 ≤ lab out v ∧ lab out v ≤ lab out u + 1
  asc : q.Pairwise (fun x y => lab out x ≤ lab out y)
  near : ∀ h rest, q = h :: rest → ∀ b, lab out b ≤ lab out h + 1
theorem lab_fill (m : Nat) (b : Int) : lab (List.replicate (m + 1) (-1)) b = -1 := by
  by_cases h : b < 0 ∨ ((List.replicate (m + 1) (-1 : Int)).length : Int) ≤ b
  · exact lab_out h
  · have := lab_get (out := List.replicate (m + 1) (-1 : Int)) (b := b) (by omega) (by omega)
    rw [List.getElem?_replicate] at this
    split at this
    · exact (Option.some.inj this).symm
    · cases this
theorem Bfs.init {E : Int → Int → Prop} {m : Nat} {a : Int} (ha : 1 ≤ a ∧ a ≤ m) : Bfs E m a ((List.replicate (m + 1) (-1)).set a.toNat 0) [a] := by
  have hl : ∀ c, lab ((List.replicate (m + 1) (-1)).set a.toNat 0) c = if c = a then 0 else -1 := fun c => by rw [lab_set (by omega) (by simp; omega), lab_fill]
  refine ⟨by simp, fun b => ?_, by rw [hl, if_pos rfl], fun b hb => ?_, fun u hu => ?_, fun u v hu hn _ => ?_, by simp, fun h rest e b => ?_⟩
  · rw [hl]; split <;> omega
  · rw [hl] at hb ⊢
    by_cases e : b = a
    · rw [if_pos e, e]; exact .here
    · rw [if_neg e] at hb; omega
  · simp at hu; rw [hl, if_pos hu]; omega
  · rw [hl] at hu
    by_cases e : u = a
    · exact absurd (by simp [e]) hn
    · rw [if_neg e] at hu; omega
  · simp at e; rw [hl, hl, if_pos e.1.symm]; split <;> omega
/-- A neighbour of the head that has no label gets one, and goes into the queue. -/
theorem Bfs.visit {E : Int → Int → Prop} {m : Nat} {a : Int} {out : List Int} {h : Int} {rest : List Int} (H : Bfs E m a out (h :: rest)) {v : Int} (hv : 1 ≤ v ∧ v ≤ m) (he : E h v) (hn : lab out v < 0) :
    Bfs E m a (out.set v.toNat (lab out h + 1)) (h :: (rest ++ [v])) ∧ (∀ b, 0 ≤ lab out b → lab (out.set v.toNat (lab out h + 1)) b = lab out b) ∧ lab (out.set v.toNat (lab out h + 1)) v = lab out h + 1 := by
  have hl : ∀ c, lab (out.set v.toNat (lab out h + 1)) c = if c = v then lab out h + 1 else lab out c := fun c => lab_set (by omega) (by rw [H.len]; omega) c
  have h0 : 0 ≤ lab out h := H.inq h (by simp)
  have keep : ∀ b, 0 ≤ lab out b → lab (out.set v.toNat (lab out h + 1)) b = lab out b := fun b hb => by rw [hl, if_neg (fun e => by subst e; omega)]
  have self : lab (out.set v.toNat (lab out h + 1)) v = lab out h + 1 := by rw [hl, if_pos rfl]
  refine ⟨⟨by rw [List.length_set]; exact H.len, fun b => ?_, by rw [keep a (by rw [H.start]; omega)]; exact H.start, fun b hb => ?_, fun u hu => ?_, fun u x hu hnq e => ?_, ?_, fun h' rest' e b => ?_⟩, keep, self⟩
  · rw [hl]; split
    · omega
    · exact H.low b
  · by_cases e : b = v
    · subst e
      rw [self]
      have := Walk.step (H.walk h h0) he
      rwa [show (lab out h).toNat + 1 = (lab out h + 1).toNat by omega] at this
    · rw [hl, if_neg e] at hb ⊢; exact H.walk b hb
  · rcases List.mem_cons.1 hu with e | e
    · subst e; rw [keep _ h0]; exact h0
    · rcases List.mem_append.1 e with e | e
      · have := H.inq u (by simp [e]); rw [keep u this]; exact this
      · simp at e; rw [e, self]; omega
  · have huv : u ≠ v := fun e' => hnq (by simp [e'])
    rw [hl, if_neg huv] at hu
    have hnq' : u ∉ h :: rest := fun hm => hnq (by rcases List.mem_cons.1 hm with e | e <;> simp [e])
    have := H.done u x hu hnq' e
    rw [keep u hu, keep x this.1]; exact this
  · rw [← List.cons_append]
    refine List.pairwise_append.2 ⟨?_, by simp, fun x hx y hy => ?_⟩
    · refine List.Pairwise.imp_of_mem ?_ H.asc
      intro x y hx hy hxy
      rw [keep x (H.inq x hx), keep y (H.inq y hy)]; exact hxy
    · simp at hy; subst hy
      rw [self, keep x (H.inq x hx)]
      exact H.near h rest rfl x
  · simp at e
    obtain ⟨rfl, _⟩ := e
    rw [keep _ h0, hl]
    split
    · omega
    · exact H.near h rest rfl b
/-- The head is done with. -/
theorem Bfs.pop {E : Int → Int → Prop} {m : Nat} {a : Int} {out : List Int} {h : Int} {rest : List Int} (H : Bfs E m a out (h :: rest)) (hd : ∀ v, E h v → 0 ≤ lab out v ∧ lab out v ≤ lab out h + 1) : Bfs E m a out rest := by
  refine ⟨H.len, H.low, H.start, H.walk, fun u hu => H.inq u (by simp [hu]), fun u v hu hn e => ?_, (List.pairwise_cons.1 H.asc).2, fun h' rest' e b => ?_⟩
  · by_cases e' : u = h
    · subst e'; exact hd v e
    · exact H.done u v hu (by simp [e', hn]) e
  · have h1 := H.near h rest rfl b
    have h2 := (List.pairwise_cons.1 H.asc).1 h' (by rw [e]; simp)
    omega
theorem Bfs.fin {E : Int → Int → Prop} {m : Nat} {a : Int} {out : List Int} (H : Bfs E m a out []) : out = distList E m a :=
  distList_of H.len (fun b => dist_of_labels (lab out) H.walk H.start (fun u v e hu => H.done u v hu (by simp) e) H.low b)

/-! ### the search by steps -/

/-- Labels that are right as far as they go: all up to s, none above s + 1. -/
structure Stp (E : Int → Int → Prop) (m : Nat) (a : Int) (s : Int) (out : List Int) : Prop where
  len : out.length = m + 1
  right : ∀ b, lab out b = distOf E a b ∨ lab out b = -1
  up : ∀ b, 0 ≤ distOf E a b → distOf E a b ≤ s → lab out b = distOf E a b
  near : ∀ b, lab out b ≤ s + 1
theorem Stp.init {E : Int → Int → Prop} {m : Nat} {a : Int} (ha : 1 ≤ a ∧ a ≤ m) : Stp E m a 0 ((List.replicate (m + 1) (-1)).set a.toNat 0) := by
  have hl : ∀ c, lab ((List.replicate (m + 1) (-1)).set a.toNat 0) c = if c = a then 0 else -1 := fun c => by rw [lab_set (by omega) (by simp; omega), lab_fill]
  refine ⟨by simp, fun b => ?_, fun b h0 h1 => ?_, fun b => ?_⟩
  · rw [hl]
    by_cases e : b = a
    · rw [if_pos e, e, dist_self]; exact .inl rfl
    · rw [if_neg e]; exact .inr rfl
  · have e : b = a := dist_zero (E := E) (a := a) (b := b) (by omega)
    rw [hl, if_pos e, e, dist_self]
  · rw [hl]; split <;> omega
theorem Stp.label {E : Int → Int → Prop} {m : Nat} {a : Int} {s : Int} {out : List Int} (H : Stp E m a s out) (hs : 0 ≤ s) {u v : Int} (hv : 1 ≤ v ∧ v ≤ m) (he : E u v) (hu : lab out u = s) (hn : lab out v < 0) :
    Stp E m a s (out.set v.toNat (s + 1)) ∧ (∀ b, 0 ≤ lab out b → lab (out.set v.toNat (s + 1)) b = lab out b) ∧ lab (out.set v.toNat (s + 1)) v = s + 1 := by
  have hl : ∀ c, lab (out.set v.toNat (s + 1)) c = if c = v then s + 1 else lab out c := fun c => lab_set (by omega) (by rw [H.len]; omega) c
  have hdu : distOf E a u = s := by rcases H.right u with e | e <;> omega
  have hdv : distOf E a v = s + 1 := by
    have h1 := dist_join (by omega : 0 ≤ distOf E a u) he
    by_cases h : s < distOf E a v
    · omega
    · have := H.up v h1.1 (by omega); omega
  refine ⟨⟨by rw [List.length_set]; exact H.len, fun b => ?_, fun b h0 h1 => ?_, fun b => ?_⟩, fun b hb => ?_, by rw [hl, if_pos rfl]⟩
  · rw [hl]
    by_cases e : b = v
    · rw [if_pos e, e, hdv]; exact .inl rfl
    · rw [if_neg e]; exact H.right b
  · rw [hl, if_neg (fun e => by subst e; omega)]; exact H.up b h0 h1
  · rw [hl]; split
    · omega
    · exact H.near b
  · rw [hl, if_neg (fun e => by subst e; omega)]
theorem Stp.next {E : Int → Int → Prop} (hE : Symm E) {m : Nat} {a : Int} {s : Int} {out : List Int} (H : Stp E m a s out) (hs : 0 ≤ s) (hd : ∀ u v, E u v → lab out u = s → 0 ≤ lab out v) : Stp E m a (s + 1) out := by
  refine ⟨H.len, H.right, fun b h0 h1 => ?_, fun b => by have := H.near b; omega⟩
  by_cases h : distOf E a b ≤ s
  · exact H.up b h0 h
  · obtain ⟨c, e, hc⟩ := dist_prev hE (by omega : 0 < distOf E a b)
    have h2 := H.up c (by omega) (by omega)
    have h3 := hd c b (hE _ _ e) (by omega)
    rcases H.right b with e' | e' <;> omega
theorem Stp.fin {E : Int → Int → Prop} (hE : Symm E) {m : Nat} (h : endsIn E m) {a : Int} (ha : 1 ≤ a ∧ a ≤ m) {out : List Int} (H : Stp E m a m out) : out = distList E m a := by
  refine distList_of H.len (fun b => ?_)
  by_cases hr : 0 ≤ distOf E a b
  · exact H.up b hr (by have := dist_lt hE h ha b; omega)
  · rcases H.right b with e | e
    · exact e
    · have := dist_ge E a b; omega
/-! ### the way -/

/-- The first pipe that leads from here to a node one nearer, and that node. -/
def stepOf (d : Int → Int) (u : Int) : List Pp → Option (Int × Int)
  | [] => none
  | p :: ps => if 0 < otherOf p u ∧ d (otherOf p u) = d u - 1 then some (p.id, otherOf p u) else stepOf d u ps
def wayL (d : Int → Int) (ps : List Pp) : Nat → Int → List Int
  | 0, _ => []
  | k + 1, u => match stepOf d u ps with
    | some x => x.1 :: wayL d ps k x.2
    | none => []
theorem wayL_succ {d : Int → Int} {ps : List Pp} {k : Nat} {u i v : Int} (h : stepOf d u ps = some (i, v)) : wayL d ps (k + 1) u = i :: wayL d ps k v := by simp [wayL, h]
theorem stepOf_at {d : Int → Int} {u : Int} : ∀ {ps : List Pp} {i : Nat} {p : Pp}, ps[i]? = some p → 0 < otherOf p u → d (otherOf p u) = d u - 1 → (∀ j q, j < i → ps[j]? = some q → ¬ (0 < otherOf q u ∧ d (otherOf q u) = d u - 1)) →
    stepOf d u ps = some (p.id, otherOf p u)
  | [], i, p, h, _, _, _ => by simp at h
  | q :: ps, 0, p, h, h1, h2, _ => by simp at h; subst h; unfold stepOf; rw [if_pos ⟨h1, h2⟩]
  | q :: ps, i + 1, p, h, h1, h2, hn => by
    unfold stepOf
    rw [if_neg (hn 0 q (by omega) (by simp))]
    exact stepOf_at (by simpa using h) h1 h2 (fun j x hj hx => hn (j + 1) x (by omega) (by simpa using hx))
theorem step_there {ps : List Pp} {m : Nat} (h : pipesIn ps m) {a u : Int} (hu : 0 < distOf (joined ps) a u) : ∃ (i : Nat) (p : Pp), ps[i]? = some p ∧ 0 < otherOf p u ∧ distOf (joined ps) a (otherOf p u) = distOf (joined ps) a u - 1 := by
  obtain ⟨c, ⟨p, hp, he⟩, hc⟩ := dist_prev (joined_symm ps) hu
  obtain ⟨i, hi, hg⟩ := List.getElem_of_mem hp
  have ho := ends_other (h p hp).2.2 he
  have hin := joined_in h _ _ ⟨p, hp, he⟩
  exact ⟨i, p, by rw [List.getElem?_eq_getElem hi, hg], by omega, by rw [ho]; exact hc⟩
theorem wayL_len {ps : List Pp} {m : Nat} (h : pipesIn ps m) {a : Int} : ∀ (k : Nat) (u : Int), distOf (joined ps) a u = k → (wayL (distOf (joined ps) a) ps k u).length = k
  | 0, _, _ => rfl
  | k + 1, u, hk => by
    have key : ∀ qs : List Pp, (∃ (i : Nat) (p : Pp), qs[i]? = some p ∧ 0 < otherOf p u ∧ distOf (joined ps) a (otherOf p u) = distOf (joined ps) a u - 1) → ∃ id v, stepOf (distOf (joined ps) a) u qs = some (id, v) ∧ distOf (joined ps) a v = distOf (joined ps) a u - 1 := by
      intro qs
      induction qs with
      | nil => rintro ⟨i, p, hp, _⟩; simp at hp
      | cons q qs ih =>
        rintro ⟨i, p, hp, h1, h2⟩
        unfold stepOf
        by_cases hq : 0 < otherOf q u ∧ distOf (joined ps) a (otherOf q u) = distOf (joined ps) a u - 1
        · rw [if_pos hq]; exact ⟨_, _, rfl, hq.2⟩
        · rw [if_neg hq]
          rcases i with _ | i
          · simp at hp; subst hp; exact absurd ⟨h1, h2⟩ hq
          · exact ih ⟨i, p, by simpa using hp, h1, h2⟩
    obtain ⟨id, v, hs, hv⟩ := key ps (step_there h (by omega))
    rw [wayL_succ hs, List.length_cons, wayL_len h k v (by omega)]

/-! ### lists of pipes -/

/-- The numbers rise. -/
def rises (ps : List Pp) : Prop := ps.Pairwise (fun p q => p.id < q.id)
theorem erase_without : ∀ {ps : List Pp} {i : Nat} {p : Pp}, rises ps → ps[i]? = some p → ps.eraseIdx i = without ps p.id
  | [], i, p, _, h => by simp at h
  | q :: ps, 0, p, hr, h => by
    simp at h; subst h
    have h' := (List.pairwise_cons.1 hr).1
    rw [List.eraseIdx_zero, List.tail_cons]
    unfold without
    rw [List.filter_cons_of_neg (by simp)]
    exact (List.filter_eq_self.2 (fun x hx => decide_eq_true (by have := h' x hx; omega))).symm
  | q :: ps, i + 1, p, hr, h => by
    have h' := List.pairwise_cons.1 hr
    have hp : ps[i]? = some p := by simpa using h
    have hm : p ∈ ps := List.mem_of_getElem? hp
    rw [List.eraseIdx_cons_succ, erase_without h'.2 hp]
    unfold without
    rw [List.filter_cons_of_pos (by have := h'.1 p hm; simp; omega)]
theorem rises_inj {ps : List Pp} (h : rises ps) {p q : Pp} (hp : p ∈ ps) (hq : q ∈ ps) (e : p.id = q.id) : p = q := by
  induction ps with
  | nil => cases hp
  | cons x xs ih =>
    have h' := List.pairwise_cons.1 h
    rcases List.mem_cons.1 hp with e1 | e1
    · rcases List.mem_cons.1 hq with e2 | e2
      · rw [e1, e2]
      · have := h'.1 q e2; subst e1; omega
    · rcases List.mem_cons.1 hq with e2 | e2
      · have := h'.1 p e1; subst e2; omega
      · exact ih h'.2 e1 e2

end Go.Proofs.YtdlcldaogcbnlaaDoor
