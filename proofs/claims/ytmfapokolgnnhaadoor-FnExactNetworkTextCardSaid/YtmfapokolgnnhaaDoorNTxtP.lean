/- Networks' texts, plainly. -/
import Derived.Test.YtmfapokolgnnhaaDoorNumP
import Derived.Test.YtmfapokolgnnhaaDoorNetA
namespace Go.Proofs.YtmfapokolgnnhaaDoor
open Go.RowKit
set_option linter.unusedVariables false
set_option linter.unusedSimpArgs false

def lineB (p : Pp) : ByteArray := itoaB p.id ++ (⟨#[58, 32]⟩ : ByteArray) ++ itoaB p.fr ++ (⟨#[45]⟩ : ByteArray) ++ itoaB p.to ++ (⟨#[32, 115, 105, 122, 101, 32]⟩ : ByteArray) ++ itoaB p.sz ++ (⟨#[10]⟩ : ByteArray)
def textN (m : Int) (ps : List Pp) : ByteArray := ps.foldl (fun s p => s ++ lineB p) ((⟨#[110, 111, 100, 101, 115, 32]⟩ : ByteArray) ++ itoaB m ++ (⟨#[10]⟩ : ByteArray))
theorem textN_take {m : Int} {ps : List Pp} {k : Nat} {p : Pp} (h : ps[k]? = some p) : textN m (ps.take (k + 1)) = textN m (ps.take k) ++ lineB p := by
  unfold textN
  rw [List.take_add_one, h, List.foldl_append]; rfl
theorem sz2 (a b : UInt8) : (⟨#[a, b]⟩ : ByteArray).size = 2 := rfl
theorem sz6 (a b c d e f : UInt8) : (⟨#[a, b, c, d, e, f]⟩ : ByteArray).size = 6 := rfl
def NetworkText_v1 (m : Int) (ps : List Pp) : Bool := goodN m ps
def NetworkText_v0 (m : Int) (ps : List Pp) : ByteArray := if goodN m ps = true then textN m ps else ⟨#[]⟩
theorem nt_yes {m : Int} {ps : List Pp} (h : goodN m ps = true) : NetworkText_v1 m ps = true ∧ NetworkText_v0 m ps = textN m ps := ⟨h, if_pos h⟩
theorem nt_no {m : Int} {ps : List Pp} (h : goodN m ps = false) : NetworkText_v1 m ps = false ∧ NetworkText_v0 m ps = ⟨#[]⟩ := ⟨h, if_neg (by rw [h]; simp)⟩
/-- All of a network's numbers are small. -/
def smallN (m : Int) (ps : List Pp) : Prop := (-1000000 ≤ m ∧ m ≤ 1000000) ∧ ps.length ≤ 100 ∧ ∀ p ∈ ps, (-1000000 ≤ p.id ∧ p.id ≤ 1000000) ∧ (-1000000 ≤ p.fr ∧ p.fr ≤ 1000000) ∧ (-1000000 ≤ p.to ∧ p.to ≤ 1000000) ∧ -1000000 ≤ p.sz ∧ p.sz ≤ 1000000
theorem good_small {m : Int} {ps : List Pp} (h : goodN m ps = true) : smallN m ps := by
  have hg := good_of h
  refine ⟨⟨by have := hg.lo; omega, by have := hg.hi; omega⟩, by have := hg.len; omega, fun p hp => ?_⟩
  have h1 := hg.pipe hp
  have h2 := hg.hi
  omega

end Go.Proofs.YtmfapokolgnnhaaDoor
