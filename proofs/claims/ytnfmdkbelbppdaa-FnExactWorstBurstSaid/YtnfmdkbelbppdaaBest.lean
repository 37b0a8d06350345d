/- Choices out of a list, and the best of them, plainly. No program is named here. -/
import Derived.Test.YtnfmdkbelbppdaaBurP
namespace Go.Proofs.Ytnfmdkbelbppdaa
open Go.RowKit
set_option linter.unusedVariables false

/-- The elements at the bits of a number. -/
def choiceTo (l : List Int) (set : Nat) : Nat → List Int
  | 0 => []
  | i + 1 => choiceTo l set i ++ (if set / 2 ^ i % 2 = 1 then [l.getD i 0] else [])
def choice (l : List Int) (set : Nat) : List Int := choiceTo l set l.length
theorem choiceTo_yes {l : List Int} {set i : Nat} {x : Int} (hx : l[i]? = some x) (h : set / 2 ^ i % 2 = 1) : choiceTo l set (i + 1) = choiceTo l set i ++ [x] := by
  rw [choiceTo, if_pos h, List.getD_eq_getElem?_getD, hx]; rfl
theorem choiceTo_no {l : List Int} {set i : Nat} (h : ¬ set / 2 ^ i % 2 = 1) : choiceTo l set (i + 1) = choiceTo l set i := by
  rw [choiceTo, if_neg h, List.append_nil]
theorem choiceTo_mem {l : List Int} {set : Nat} {z : Int} : ∀ {i : Nat}, i ≤ l.length → z ∈ choiceTo l set i → z ∈ l
  | 0, _, h => by simp [choiceTo] at h
  | i + 1, hi, h => by
    unfold choiceTo at h
    rcases List.mem_append.1 h with h | h
    · exact choiceTo_mem (by omega) h
    · split at h
      · simp at h
        have : l[i]? = some l[i] := List.getElem?_eq_getElem (by omega)
        rw [this] at h; simp at h
        exact h ▸ List.getElem_mem (by omega)
      · simp at h
theorem choice_mem {l : List Int} {set : Nat} {z : Int} (h : z ∈ choice l set) : z ∈ l := choiceTo_mem (Nat.le_refl _) h
theorem choiceTo_len (l : List Int) (set : Nat) : ∀ i, (choiceTo l set i).length ≤ i
  | 0 => by simp [choiceTo]
  | i + 1 => by
    have := choiceTo_len l set i
    unfold choiceTo; rw [List.length_append]
    split <;> simp <;> omega
theorem choice_len (l : List Int) (set : Nat) : (choice l set).length ≤ l.length := choiceTo_len l set l.length
def lexL : List Int → List Int → Bool
  | a :: us, b :: ws => if a = b then lexL us ws else decide (a < b)
  | _, _ => false
/-- Shorter, or us long and smaller. -/
def lessL (a b : List Int) : Bool := if a.length = b.length then lexL a b else decide (a.length < b.length)
def better (h : List Int → Int) (plan : List Int) (b : List Int × Int) : Bool := decide (h plan < b.2) || (decide (h plan = b.2) && lessL plan b.1)
def bestStep (P : List Int → Bool) (h : List Int → Int) (r : Option (List Int × Int)) (plan : List Int) : Option (List Int × Int) :=
  if P plan = true then (match r with | none => some (plan, h plan) | some b => if better h plan b = true then some (plan, h plan) else some b) else r
def bestTo (P : List Int → Bool) (h : List Int → Int) (l : List Int) : Nat → Option (List Int × Int)
  | 0 => none
  | s + 1 => bestStep P h (bestTo P h l s) (choice l s)
def bestOf (P : List Int → Bool) (h : List Int → Int) (l : List Int) : Option (List Int × Int) := bestTo P h l (2 ^ l.length)
theorem bestTo_next {P : List Int → Bool} {h : List Int → Int} {l : List Int} {s : Nat} {r : Option (List Int × Int)} (e : bestTo P h l s = r) : bestTo P h l (s + 1) = bestStep P h r (choice l s) := by rw [bestTo, e]
theorem bestStep_no {P : List Int → Bool} {h : List Int → Int} {r : Option (List Int × Int)} {plan : List Int} (e : P plan = false) : bestStep P h r plan = r := by unfold bestStep; rw [if_neg (by rw [e]; simp)]
theorem bestStep_first {P : List Int → Bool} {h : List Int → Int} {plan : List Int} (e : P plan = true) : bestStep P h none plan = some (plan, h plan) := by unfold bestStep; rw [if_pos e]
theorem bestStep_yes {P : List Int → Bool} {h : List Int → Int} {plan : List Int} {b : List Int × Int} (e : P plan = true) (hb : better h plan b = true) : bestStep P h (some b) plan = some (plan, h plan) := by unfold bestStep; rw [if_pos e]; simp only [hb, if_true]
theorem bestStep_keep {P : List Int → Bool} {h : List Int → Int} {plan : List Int} {b : List Int × Int} (hb : better h plan b = false) : bestStep P h (some b) plan = some b := by
  unfold bestStep
  split
  · simp only [hb]; rfl
  · rfl
theorem bestTo_none {P : List Int → Bool} {h : List Int → Int} {l : List Int} (hP : ∀ s, P (choice l s) = false) : ∀ s, bestTo P h l s = none
  | 0 => rfl
  | s + 1 => by rw [bestTo_next (bestTo_none hP s), bestStep_no (hP s)]
/-- What is best is one of the choices. -/
theorem bestTo_in {P : List Int → Bool} {h : List Int → Int} {l : List Int} {b : List Int × Int} : ∀ {s : Nat}, bestTo P h l s = some b → ∃ t, t < s ∧ b.1 = choice l t ∧ P b.1 = true ∧ b.2 = h b.1
  | 0, e => by cases e
  | s + 1, e => by
    by_cases hP : P (choice l s) = true
    · cases hr : bestTo P h l s with
      | none => rw [bestTo_next hr, bestStep_first hP] at e; cases e; exact ⟨s, by omega, rfl, hP, rfl⟩
      | some c =>
        by_cases hb : better h (choice l s) c = true
        · rw [bestTo_next hr, bestStep_yes hP hb] at e; cases e; exact ⟨s, by omega, rfl, hP, rfl⟩
        · rw [bestTo_next hr, bestStep_keep (by simpa using hb)] at e; cases e
          obtain ⟨t, ht, r⟩ := bestTo_in hr
          exact ⟨t, by omega, r⟩
    · rw [bestTo_next rfl, bestStep_no (by simpa using hP)] at e
      obtain ⟨t, ht, r⟩ := bestTo_in e
      exact ⟨t, by omega, r⟩
theorem bestOf_in {P : List Int → Bool} {h : List Int → Int} {l : List Int} {b : List Int × Int} (e : bestOf P h l = some b) : ∃ t, b.1 = choice l t ∧ P b.1 = true ∧ b.2 = h b.1 := let ⟨t, _, r⟩ := bestTo_in e; ⟨t, r⟩
theorem bestOf_len {P : List Int → Bool} {h : List Int → Int} {l : List Int} {b : List Int × Int} (e : bestOf P h l = some b) : b.1.length ≤ l.length := by
  obtain ⟨t, h1, _⟩ := bestOf_in e; rw [h1]; exact choice_len l t
theorem bestTo_mono {P : List Int → Bool} {h : List Int → Int} {l : List Int} {s : Nat} (e : bestTo P h l s ≠ none) : ∀ d, bestTo P h l (s + d) ≠ none
  | 0 => e
  | d + 1 => by
    have := bestTo_mono e d
    cases hr : bestTo P h l (s + d) with
    | none => exact absurd hr this
    | some c =>
      rw [← Nat.add_assoc, bestTo_next hr]
      unfold bestStep
      split
      · simp only []; split <;> simp
      · simp
theorem bestOf_some {P : List Int → Bool} {h : List Int → Int} {l : List Int} {t : Nat} (ht : t < 2 ^ l.length) (hP : P (choice l t) = true) : bestOf P h l ≠ none := by
  have h1 : bestTo P h l (t + 1) ≠ none := by
    cases hr : bestTo P h l t with
    | none => rw [bestTo_next hr, bestStep_first hP]; simp
    | some c => rw [bestTo_next hr]; unfold bestStep; rw [if_pos hP]; simp only []; split <;> simp
  have := bestTo_mono h1 (2 ^ l.length - (t + 1))
  rwa [show t + 1 + (2 ^ l.length - (t + 1)) = 2 ^ l.length by omega] at this

/-! ### how the program compares -/

def cmpL : List Int → List Int → Int
  | [], [] => 0
  | [], _ :: _ => -1
  | _ :: _, [] => 1
  | a :: us, b :: ws => if a < b then -1 else if b < a then 1 else cmpL us ws
theorem cmpL_lex : ∀ {a b : List Int}, a.length = b.length → decide (cmpL a b < 0) = lexL a b
  | [], [], _ => rfl
  | [], _ :: _, h => by simp at h
  | _ :: _, [], h => by simp at h
  | a :: us, b :: ws, h => by
    have ih := cmpL_lex (a := us) (b := ws) (by simpa using h)
    unfold cmpL lexL
    by_cases h1 : a < b
    · rw [if_pos h1, if_neg (by omega), decide_eq_true h1]; rfl
    · rw [if_neg h1]
      by_cases h2 : b < a
      · rw [if_pos h2, if_neg (by omega), decide_eq_false h1]; rfl
      · rw [if_neg h2, if_pos (by omega)]; exact ih
theorem cmpL_two (o n l k : Int) : cmpL [o, n] [l, k] = if o < l then -1 else if l < o then 1 else if n < k then -1 else if k < n then 1 else 0 := rfl
theorem better_cmp {h : List Int → Int} {plan best : List Int} {least : Int} : better h plan (best, least) = (decide (cmpL [h plan, (plan.length : Int)] [least, (best.length : Int)] < 0) || (decide (cmpL [h plan, (plan.length : Int)] [least, (best.length : Int)] = 0) && decide (cmpL plan best < 0))) := by
  unfold better lessL
  rw [cmpL_two]
  by_cases h1 : h plan < least
  · rw [if_pos h1, decide_eq_true h1]; rfl
  · rw [if_neg h1, decide_eq_false h1, Bool.false_or]
    by_cases h2 : least < h plan
    · rw [if_pos h2, decide_eq_false (by omega)]; rfl
    · rw [if_neg h2, decide_eq_true (by omega), Bool.true_and]
      by_cases h3 : plan.length = best.length
      · rw [if_pos h3, if_neg (by omega), if_neg (by omega), ← cmpL_lex h3]; rfl
      · rw [if_neg h3]
        by_cases h4 : plan.length < best.length
        · rw [if_pos (by omega), decide_eq_true h4]; rfl
        · rw [if_neg (by omega), if_pos (by omega), decide_eq_false h4]; rfl
theorem lexL_len {a b : List Int} : lexL a b = lexL a b := rfl

end Go.Proofs.Ytnfmdkbelbppdaa
