/- A network is valid: both packages' tests are one plain function. -/
import Derived.Test.YtmfapokolgnnhaaNetC
namespace Go.Proofs.Ytmfapokolgnnhaa
open Go.RowKit
set_option linter.unusedVariables false

def IsValidNetwork_v0 (m : Int) (ps : List Pp) : Bool := goodN m ps
set_option maxRecDepth 100000 in
set_option maxHeartbeats 1000000 in
theorem IsValidNetwork_spec (m : Int) (A : Option Addr) (n c : Nat) (ps : List Pp) (w : World) (ha : Rd w 4 A n (pipesV ps)) (hn : n ≤ 1048576) :
    Calls Try.prog 14 #[.agg #[.int .i64 m, .slice A n c]] w fun e w' => e = .returned (.bool (IsValidNetwork_v0 m ps)) ∧ Below w.heap.size w w' := by
  go_enter Try.func14, Try.ntmps14
  refine wp_seq_k (fun K1 h1 => ?_)
  refine region_plain (row := none) [(0, true), (1, false)] rfl ?_
  have s1 := SG.self w none
  refine sn (fun b => .pointer (some ⟨b, 0, none⟩)) #[.int .i64 m, .slice A n c] 29 s1 rfl rfl rfl (fun _ => by kernel_rfl) (fun b2 w3 hb4 k5 x6 s7 => ?_)
  have lo8 : w.heap.size ≤ b2 := by have := ((SG.belowR (Below.refl _ _) s1 (fun k e => by cases e))).size; omega
  refine sq (v := .bool false) rfl (r_assign rfl rfl) rfl rfl rfl ?_
  refine sch_end ?_
  simp only [List.set_cons_zero, List.set_cons_succ]
  have c9 := (SG.belowR (Below.refl _ _) s7 (fun k e => by cases e))
  refine h1 _ _ ?_
  refine wp_seq_k (fun K2 h2 => ?_)
  refine region_plain (row := none) [(0, false), (1, true), (2, false)] rfl ?_
  have s10 := SG.self w3 none
  refine sq (v := .agg #[.int .i64 m, .slice A n c]) rfl (r_load2 rfl rfl (by kernel_rfl) (by kernel_rfl) (sgS (blk_cell (j := 0) x6 rfl) (by simp)) (sgS (blk_cell (j := 1) x6 rfl) (by simp))) rfl rfl rfl ?_
  refine sc (vs := [.agg #[.int .i64 m, .slice A n c]]) rfl rfl rfl (by kernel_rfl) rfl rfl (l2Good_any m A n c ps _ (Rd.kept ha (SG.belowR c9 s10 (fun k e => by cases e))) (by omega)) ?_
  rintro e w12 ⟨rfl, b11⟩
  have s13 := SG.of_below s10 b11
  refine ⟨_, rfl, s13, ?_⟩
  rcases Bool.eq_false_or_eq_true (goodN m ps) with q14 | q14
  · rw [q14]
    refine sq (v := .bool true) rfl (r_assign rfl rfl) rfl rfl rfl ?_
    refine sch_end ?_
    simp only [List.set_cons_zero, List.set_cons_succ]
    have x6 := SG.blk s13 x6 (by simp)
    have c15 := (SG.belowR c9 s13 (fun k e => by cases e))
    refine h2 _ _ ?_
    refine wp_ret ?_
    try simp only [Exit.then]
    refine ret1 rfl rfl ?_
    exact ⟨ret_bool q14.symm, c15⟩
  · rw [q14]
    refine sq (v := .bool false) rfl (r_assign rfl rfl) rfl rfl rfl ?_
    refine sch_end ?_
    simp only [List.set_cons_zero, List.set_cons_succ]
    have x6 := SG.blk s13 x6 (by simp)
    have c16 := (SG.belowR c9 s13 (fun k e => by cases e))
    refine h2 _ _ ?_
    refine wp_ret ?_
    try simp only [Exit.then]
    refine ret1 rfl rfl ?_
    exact ⟨ret_bool q14.symm, c16⟩

theorem IsValidNetwork_impl (m : Int) (A : Option Addr) (n c : Nat) (ps : List Pp) (w : World) (ha : Rd w 4 A n (pipesV ps)) (hn : n ≤ 1048576) :
    Calls Try.prog 16 #[.agg #[.int .i64 m, .slice A n c]] w fun e w' => e = .returned (.bool (IsValidNetwork_v0 m ps)) ∧ Below w.heap.size w w' := IsValid_any m A n c ps w ha hn
end Go.Proofs.Ytmfapokolgnnhaa
