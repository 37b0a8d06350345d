/- Rows of texts: the laws' helper that marks them. -/
import Derived.Test.YtgpallafdmjbdaaStrH
import Derived.Test.YtgpallafdmjbdaaRow
namespace Go.Proofs.Ytgpallafdmjbdaa
open Go.RowKit
set_option linter.unusedVariables false

/-- What a mark leaves: the row holds the marks from k0 on; nothing else has turned. -/
def MarkedS (w : World) (base : Nat) (A : Option Addr) (n c : Nat) (k0 : Int) (e : Ending) (w' : World) : Prop :=
  e = .returned (.int .i64 (k0 + n)) ∧ w'.ownsRow base 9 1 (.slice A n c) n (strsV (marksFrom k0 n)) ∧ w.grownBy w' (Value.slice A n c).ownBlock
theorem mark_set {zs : List ByteArray} {k0 : Int} {n k : Nat} (hl : zs.length = n) (hk : k < n) :
    (strsV (marksFrom k0 k) ++ strsV (zs.drop k)).set k (.string (markT (k0 + k).toNat)) = strsV (marksFrom k0 (k + 1)) ++ strsV (zs.drop (k + 1)) := by
  have hlen : (strsV (marksFrom k0 k)).length = k := by simp [strsV, marksFrom]
  rw [List.set_append_right _ _ (by omega), hlen, Nat.sub_self, List.drop_eq_getElem_cons (show k < zs.length by omega)]
  simp only [List.set_cons_zero, strsV, List.map_cons, marksFrom, List.range_succ, List.map_append, List.map_nil, List.append_assoc, List.singleton_append]
theorem grown_of_below {w w' : World} (b : Below w.heap.size w w') (row : Option Nat) : w.grownBy w' row := ⟨b.os, b.tape, b.output, b.size, fun k hk _ => b.block k hk⟩
set_option maxHeartbeats 800000 in
theorem markStringS_any (A : Option Addr) (n c base : Nat) (k0 : Int) (zs : List ByteArray) (w : World) (how : w.ownsRow base 9 1 (.slice A n c) n (strsV zs)) (hn : n ≤ 1000000000) (h0 : 0 ≤ k0) (h1 : k0 ≤ 1000000000000) :
    Calls Try.prog 16 #[.slice A n c, .int .i64 k0] w (MarkedS w base A n c k0) := by
  have hlen : zs.length = n := by have := own_len how; rw [strs_len] at this; exact this
  have Hl := Lib.hid hlen
  clear hlen
  go_enter Try.func16, Try.ntmps16
  go_wp2
  go_loopw [1, 5] (fun x i wr => ∃ k : Nat, k ≤ n ∧ i = .int .i64 k ∧ x = .int .i64 (k0 + k) ∧ wr.ownsRow base 9 1 (.slice A n c) n (strsV (marksFrom k0 k) ++ strsV (zs.drop k)) ∧ w.grownBy wr (Value.slice A n c).ownBlock) (fun _ i _ => n - (intOf i).toNat)
  case atStart => exact ⟨0, Nat.zero_le _, rfl, by simp, by simpa [marksFrom, strsV] using how, World.grownBy.refl _ _⟩
  case round =>
    obtain ⟨k, hk, rfl, rfl, hor, hgr⟩ := hrel
    by_cases hlt : k < n
    · have Hm := Lib.hid (markText_any (k0 + (k : Int)) (by omega) (by omega))
      have Hor := Lib.hid hor
      have Hgr := Lib.hid hgr
      clear how hor hgr
      go_wp2_with (go_at_call 29; refine (Hm.out _).mono ?_; rintro e w2 ⟨rfl, b2⟩; refine Hid.out ?_)
      have hor := own_kept Hor.out b2
      have hgr := grown_trans Hgr.out (grown_of_below b2 (Value.slice A n c).ownBlock)
      obtain ⟨b, off, u, rfl, hbb, hx, hc⟩ := (own_rd hor).at1 hlt
      obtain rfl : off = 0 := by
        rcases hor.2 with ⟨hv, _⟩ | ⟨g, cap, cur, hv, _⟩
        · simp at hv
        · simp at hv; exact hv.1.2
      have hfg := hor.frozenAt k
      have hst := hor.stored k (.string (markT (k0 + k).toNat))
      rw [mark_set Hl.out hlt] at hst
      have Hst := Lib.hid hst
      have Hg2 := Lib.hid hgr
      rw [Nat.zero_add] at hc
      clear hst hx hor hgr b2
      refine Lib.hid ?_
      go_wp2
      go_roundw
      case rel => exact ⟨k + 1, by omega, by go_num, by go_num, Hst.out.1, grown_trans Hg2.out Hst.out.2⟩
      case measure => simp [intOf]; omega
    · have hkn : k = n := by omega
      subst hkn
      go_wp2
      go_ret
      refine ⟨rfl, ?_, hgr⟩
      have hl := Hl.out
      simpa [List.drop_of_length_le, hl, strsV] using hor

end Go.Proofs.Ytgpallafdmjbdaa
