/- Networks: the laws' helpers: size, copy, equality, marks. -/
import Derived.Test.YtdlcldaogcbnlaaPipes
namespace Go.Proofs.Ytdlcldaogcbnlaa
open Go.RowKit
set_option linter.unusedVariables false

theorem szNetwork_any (m : Int) (x : Option Addr) (n p : Nat) (ps : List Pp) (left : Int) (w : World) (h : Rd w 4 x n (pipesV ps)) (h0 : 0 ≤ left) (h1 : left ≤ 1048576) (hn : n ≤ 9223372036854775807) :
    Calls Try.prog 6 #[.agg #[.int .i64 m, .slice x n p], .int .i64 left] w fun e w' => e = .returned (.int .i64 (szL left n)) ∧ Below w.heap.size w w' := by
  clear h
  go_enter Try.func6, Try.ntmps6
  go_wp2_with fail
  refine (szPipeS_any x n p left _ h0 h1 hn).mono ?_
  rintro e w1 ⟨rfl, rfl⟩
  by_cases hl : (n : Int) ≤ left
  · have H := Lib.hid (szL_pos hl)
    rw [H.out]
    go_wp2
    go_ret
    exact ⟨ret_int H.out.symm, below_a1 _ _⟩
  · have H := Lib.hid (szL_neg hl)
    rw [H.out]
    go_wp2
    go_ret
    exact ⟨ret_int H.out.symm, below_a1 _ _⟩

theorem toNetwork_any (m : Int) (x : Option Addr) (n p : Nat) (ps : List Pp) (w : World) (h : Rd w 4 x n (pipesV ps)) (hn : n ≤ 1048576) :
    Calls Try.prog 8 #[.agg #[.int .i64 m, .slice x n p]] w fun e w' => ∃ A d, e = .returned (.agg #[.int .i64 m, .slice A n d]) ∧ w'.ownsRow w.heap.size 51 4 (.slice A n d) n (pipesV ps) ∧ Below w.heap.size w w' := by
  have Ht := Lib.hid (fun W (hW : Rd W 4 x n (pipesV ps)) => toPipeS_any x n p ps W hW hn)
  have Hk := Lib.hid (fun w' (hb : Below w.heap.size w w') => h.kept hb)
  clear h
  go_enter Try.func8, Try.ntmps8
  go_wp2_with fail
  refine (Ht.out _ (Hk.out _ (by first | exact (below_a3 _ _ _ _) | exact (below_a3 _ _ _ _).setCell (by simp <;> omega) _))).mono ?_
  rintro e w1 ⟨A, d, rfl, ho, b1⟩
  have hc := keeps b1
  have hcF := keepsF b1
  have Ho := Lib.hid ho
  have Hb := Lib.hid (below_step (below_a3 w _ _ _) b1 (by simp))
  have hs : w.heap.size + 3 ≤ w1.heap.size := by have := b1.size; simpa using this
  clear ho b1
  go_wp2
  exact bodyPost_ret (v := .agg #[.int .i64 m, .slice A n d]) (by simp [results, Try.results8, go_sem, hc]) rfl ⟨_, _, rfl, own_base (own_set (own_set (own_set Ho.out (by simp) _) (by simp) _) (by simp) _) (by simp; omega), ((Hb.out.setCell (by simp <;> omega) _).setCell (by simp <;> omega) _).setCell (by simp <;> omega) _⟩

theorem eqNetwork_below (m : Int) (A B : Option Addr) (n c d : Nat) (ps : List Pp) (w : World) (ha : Rd w 4 A n (pipesV ps)) (hb : Rd w 4 B n (pipesV ps)) (hn : n ≤ 9223372036854775807) :
    Calls Try.prog 11 #[.agg #[.int .i64 m, .slice A n c], .agg #[.int .i64 m, .slice B n d]] w fun e w' => e = .returned (.bool true) ∧ Below w.heap.size w w' := by
  have Ht := Lib.hid (fun W (h1 : Rd W 4 A n (pipesV ps)) (h2 : Rd W 4 B n (pipesV ps)) => eqPipeS_below A B n c d ps W h1 h2 hn)
  have Ha := Lib.hid ha
  have Hb := Lib.hid hb
  clear ha hb
  go_enter Try.func11, Try.ntmps11
  go_wp2_with fail
  refine (Ht.out _ (Ha.out.kept (below_a2 _ _ _)) (Hb.out.kept (below_a2 _ _ _))).mono ?_
  rintro e w1 ⟨rfl, b1⟩
  go_wp2
  go_ret
  exact ⟨rfl, below_step (below_a2 _ _ _) b1 (by simp)⟩

theorem markNetwork_any (m : Int) (A : Option Addr) (n c base : Nat) (k0 : Int) (xs : List Value) (w : World) (how : w.ownsRow base 51 4 (.slice A n c) n xs) (hn : n ≤ 1000000000) (h0 : 0 ≤ k0) (h1 : k0 ≤ 1000000000000) :
    Calls Try.prog 12 #[.agg #[.int .i64 m, .slice A n c], .int .i64 k0] w (MarkedPipeS w base A n c k0) := by
  have Ho := Lib.hid how
  clear how
  go_enter Try.func12, Try.ntmps12
  go_wp2_with fail
  refine (markPipeS_any A n c base k0 xs _ (own_kept Ho.out (below_a1 _ _)) hn h0 h1).mono ?_
  rintro e w1 ⟨rfl, o1, g1⟩
  have H := Lib.hid (And.intro o1 (grown_trans (World.grownBy_alloc _ _ _) g1))
  clear o1 g1
  go_wp2
  go_ret
  exact ⟨rfl, H.out.1, H.out.2⟩

end Go.Proofs.Ytdlcldaogcbnlaa
