/- Slices of whole numbers: the laws' helpers: size, copy. -/
import Derived.Test.YtnfmdkbelbppdaaInts
namespace Go.Proofs.Ytnfmdkbelbppdaa
open Go.RowKit
set_option linter.unusedVariables false

/-- A slice of the call's own, made anew, that holds these numbers. -/
def MadeInts (w : World) (n : Nat) (zs : List Int) (e : Ending) (w' : World) : Prop :=
  ∃ A c, e = .returned (.slice A n c) ∧ w'.ownsRow w.heap.size 3 1 (.slice A n c) n (intsV zs) ∧ Below w.heap.size w w'
theorem ints_fill {zs : List Int} {n k : Nat} {z : Int} (hl : zs.length = n) (hk : k < n) (hz : zs[k]? = some z) :
    (intsV (zs.take k) ++ List.replicate (n - k) (Value.int .i64 0)).set k (.int .i64 z) = intsV (zs.take (k + 1)) ++ List.replicate (n - (k + 1)) (Value.int .i64 0) := by
  have hlen : (intsV (zs.take k)).length = k := by simp [intsV]; omega
  rw [List.set_append_right _ _ (by omega), hlen, Nat.sub_self, ints_snoc zs k z hz, List.append_assoc]
  obtain ⟨m, hm⟩ : ∃ m, n - k = m + 1 := ⟨n - k - 1, by omega⟩
  rw [hm, show n - (k + 1) = m by omega, List.replicate_succ]; rfl
set_option maxHeartbeats 800000 in
theorem toIntS_any (A : Option Addr) (n c : Nat) (zs : List Int) (w : World) (ha : Rd w 1 A n (intsV zs)) (hn : n ≤ 1048576) :
    Calls Try.prog 18 #[.slice A n c] w (MadeInts w n zs) := by
  have hlen : zs.length = n := by have := ha.1; rw [ints_len] at this; omega
  obtain ⟨i0, hi, hz0, hz1, hz2⟩ := info_parts intInfo
  have hbytes : i0.bytes * n ≤ 281474976710656 := by rw [hz2]; omega
  have Hl := Lib.hid hlen
  clear hlen
  go_enter Try.func18, Try.ntmps18
  go_wp2_with (at_make; refine wpList_make_full _ rfl _ _ 26 rfl w.heap.size 3 i0 (.int .i64 0) 1 Try.underlying26 hi hz0 hz1 .i64 .i64 _ _ n rfl rfl rfl rfl hbytes (by unfold maxLen; omega) (Nat.le_refl _) ?_)
  intro w1 hown hgrow
  have hb1 : Below w.heap.size w w1 := (Below.refl _ _).grown hgrow (Nat.le_refl _) (by simp)
  rw [toList_madeCells_one] at hown
  have Hi := Lib.hid hi
  have H0 := Lib.hid hz0
  have H1 := Lib.hid hz1
  have H2 := Lib.hid hz2
  clear hi hz0 hz1 hz2 hgrow hbytes
  go_wp2_with fail
  go_loopw [4] (fun i wr => ∃ k : Nat, k ≤ n ∧ i = .int .i64 k ∧ wr.ownsRow w.heap.size 3 1 (.slice (some ⟨w.heap.size, 0, none⟩) n n) n (intsV (zs.take k) ++ List.replicate (n - k) (Value.int .i64 0)) ∧ Below w.heap.size w wr) (fun i _ => n - (intOf i).toNat)
  case atStart => exact ⟨0, Nat.zero_le _, rfl, by simpa [intsV] using hown, hb1⟩
  case round =>
    obtain ⟨k, hk, rfl, how, hbr⟩ := hrel
    by_cases hlt : k < n
    · obtain ⟨b, off, u, rfl, hbb, hx, hc⟩ := (ha.kept hbr).at1 hlt
      obtain ⟨z, hz, rfl⟩ := ints_at hx
      have hcg : wr.cell? ⟨w.heap.size, k, none⟩ = some (.int .i64 0) := by
        have hl := Hl.out
        rw [how.cellAt k (by omega), List.getElem?_append_right (by simp [intsV]; omega), List.getElem?_replicate, if_pos (by simp [intsV]; omega)]
      have hfg := how.frozenAt k
      have hst := (how.stored k (.int .i64 z)).1
      rw [ints_fill Hl.out hlt hz] at hst
      have Hst := Lib.hid hst
      clear hst hx hz ha how hown
      go_wp2
      go_roundw
      case rel => exact ⟨k + 1, by omega, by go_num, Hst.out, hbr.setCell (Nat.le_refl _) _⟩
      case measure => simp [intOf]; omega
    · have hkn : k = n := by omega
      subst hkn
      go_wp2
      go_ret
      refine ⟨_, _, rfl, ?_, hbr⟩
      have hl := Hl.out
      simpa [List.take_of_length_le, hl] using how

end Go.Proofs.Ytnfmdkbelbppdaa
