/- What the texts behind it build on; conditions: none. -/
import Derived.Test.YtdlcldaogcbnlaaDoorPk3
import Derived.Shelf.Utf8.RuneCount
import Derived.Shelf.Strconv.Atoi
import Derived.Shelf.Strconv.Itoa0
import Derived.Shelf.Strconv.Itoa1
import Derived.Shelf.LaysM
import Derived.Shelf.Strconv.Itoa2
import Derived.Shelf.Strconv.Itoa3
import Derived.Shelf.Strconv.AtoiErrFast
import Derived.Shelf.Strconv.ParseIntEmpty
import Derived.Shelf.Strconv.AtoiFail
import Derived.Shelf.Strconv.Clone
import Derived.Shelf.Strconv.SyntaxError
import Derived.Shelf.LaysC
import Derived.Shelf.Strconv.ToError
import Derived.Shelf.Strconv.AtoiErr
import Derived.Shelf.Strconv.Lower
import Derived.Shelf.Strconv.ParseUint10
import Derived.Shelf.Strconv.ParseUint10Empty
import Derived.Shelf.Strconv.ParseUint10Any
import Derived.Shelf.Strconv.ParseInt10
import Derived.Shelf.Strconv.AtoiLong
import Derived.Shelf.Strconv.AtoiInnerAll
import Derived.Shelf.Strconv.RangeError
import Derived.Shelf.Strconv.ToErrorRange
import Derived.Shelf.Strconv.AtoiAll
import Derived.Shelf.Strconv.ErrVarAll
import Derived.Shelf.Strings.Search1
import Derived.Shelf.Strings.Search2
import Derived.Shelf.Strings.Search3
import Derived.Shelf.Strings.Cut
import Derived.Shelf.Strings.Count
import Derived.Shelf.Strings.Shaped
import Derived.Shelf.Strings.Split
import Derived.Shelf.Strings.SplitShaped
import Derived.Shelf.Unicode.Decode
import Derived.Shelf.Strings.RuneCount
import Derived.Shelf.Strings.Explode
import Derived.Shelf.Unicode.DecodeSlow
import Derived.Shelf.Unicode.DecodeAny
import Derived.Test.YtdlcldaogcbnlaaDoorProg
import Derived.Lib.Join
import Derived.Lib.IndexAny
import Derived.Lib.Index
import Derived.Lib.CutLaws
import Derived.Lib.IndexBytes
import Derived.Lib.IndexLaws
import Derived.MakeChecks
import Derived.Lib.LaidTab
import Derived.WideLaws
import Derived.Stop.LaidErr
import Derived.Lib.SmallJoins
import Derived.Laws.IdiomCopy
import Derived.Laws.CopyOwn
import Derived.Lib.AppendZerosOnto
import Derived.Lib.SliceRun
namespace Go.Proofs.YtdlcldaogcbnlaaDoor
open Go.RowKit
set_option linter.unusedVariables false
set_option linter.unusedSimpArgs false
set_option maxRecDepth 100000 in
set_option maxHeartbeats 1000000 in
theorem l1Num_step (k : Nat) (w : World) (hk : k ≤ 1000000000000000) (IH : ∀ m : Nat, m < k → ∀ w : World, m ≤ 1000000000000000 → Calls Tryd.prog 68 #[.int .i64 ((m : Nat) : Int)] w fun e w' => e = .returned (.string (itoaB ((m : Nat) : Int))) ∧ Below w.heap.size w w') :
    Calls Tryd.prog 68 #[.int .i64 ((k : Nat) : Int)] w fun e w' => e = .returned (.string (itoaB ((k : Nat) : Int))) ∧ Below w.heap.size w w' := by
  go_enter Tryd.func68, Tryd.ntmps68
  refine wp_seq_k (fun K1 h1 => ?_)
  refine W.region_quiet [(0, false)] (by kernel_rfl) ?_
  refine W.as (v := .string (⟨#[]⟩ : ByteArray)) (h := ?_)
  refine W.endF 25 [(0, .int .i64 ((k : Nat) : Int)), (2, .string (⟨#[]⟩ : ByteArray))] (fun U1 => ?_)
  apply h1
  refine wp_seq_k (fun K2 h2 => ?_)
  refine wp_seq_k (fun K3 h3 => ?_)
  refine W.region_quiet [(0, false), (1, false)] (by kernel_rfl) ?_
  refine W.mv (v := .int .i64 ((k : Nat) : Int)) (h := ?_)
  refine W.q (v := .bool false) (hr := (r_lss (m := ((k : Nat) : Int)) (n := 0) rfl (by kernel_rfl) (by kernel_rfl) (df (by omega)))) (h := ?_)
  refine W.endF 25 [(0, .int .i64 ((k : Nat) : Int)), (2, .string (⟨#[]⟩ : ByteArray)), (4, .bool false)] (fun U2 => ?_)
  apply h3
  refine wp_cond_false (by kernel_rfl) ?_
  apply wp_skip
  apply h2
  refine wp_seq_k (fun K4 h4 => ?_)
  refine wp_seq_k (fun K5 h5 => ?_)
  refine W.region_quiet [(0, false), (1, false)] (by kernel_rfl) ?_
  refine W.mv (v := .int .i64 ((k : Nat) : Int)) (h := ?_)
  by_cases q3 : (((k : Nat) : Int) : Int) < (10 : Int)
  · refine W.q (v := .bool true) (hr := (r_lss (m := ((k : Nat) : Int)) (n := 10) rfl (by kernel_rfl) (by kernel_rfl) (dt q3))) (h := ?_)
    refine W.endF 25 [(0, .int .i64 ((k : Nat) : Int)), (2, .string (⟨#[]⟩ : ByteArray)), (4, .bool false), (10, .bool true)] (fun U4 => ?_)
    apply h5
    refine wp_cond_true (by kernel_rfl) ?_
    refine wp_seq_k (fun K6 h6 => ?_)
    refine W.region_quiet [(0, false), (1, false), (2, false), (3, false), (4, false)] (by kernel_rfl) ?_
    refine W.mv (v := .int .i64 ((k : Nat) : Int)) (h := ?_)
    refine W.mv (v := .int .i64 ((k : Nat) : Int)) (h := ?_)
    refine W.q (v := .int .i64 ((k + 1 : Nat) : Int)) (hr := (r_add (m := ((k : Nat) : Int)) (n := 1) (z := ((k + 1 : Nat) : Int)) rfl (by kernel_rfl) (by kernel_rfl) (by omega) (by omega))) (h := ?_)
    refine W.q (v := .string ((⟨#[48, 49, 50, 51, 52, 53, 54, 55, 56, 57]⟩ : ByteArray).extract k (k + 1))) (hr := (r_cutS (s := (⟨#[48, 49, 50, 51, 52, 53, 54, 55, 56, 57]⟩ : ByteArray)) (l := k) (h := k + 1) rfl (by kernel_rfl) (by kernel_rfl) (by kernel_rfl) (by kernel_rfl) (by omega) (by (try rw [show (⟨#[48, 49, 50, 51, 52, 53, 54, 55, 56, 57]⟩ : ByteArray).size = 10 from rfl]); omega))) (h := ?_)
    refine W.as (v := .string ((⟨#[48, 49, 50, 51, 52, 53, 54, 55, 56, 57]⟩ : ByteArray).extract k (k + 1))) (h := ?_)
    refine W.endF 25 [(0, .int .i64 ((k : Nat) : Int)), (2, .string ((⟨#[48, 49, 50, 51, 52, 53, 54, 55, 56, 57]⟩ : ByteArray).extract k (k + 1))), (4, .bool false), (10, .bool true)] (fun U5 => ?_)
    apply h6
    refine wp_ret ?_
    try simp only [Exit.then]
    refine ret1 (v := .string ((⟨#[48, 49, 50, 51, 52, 53, 54, 55, 56, 57]⟩ : ByteArray).extract k (k + 1))) rfl (by kernel_rfl) ?_
    exact ⟨by rw [itoaB_small (k := k) (by omega), dig_cut (by omega)], (Below.refl _ _)⟩
  · refine W.q (v := .bool false) (hr := (r_lss (m := ((k : Nat) : Int)) (n := 10) rfl (by kernel_rfl) (by kernel_rfl) (df q3))) (h := ?_)
    refine W.endF 25 [(0, .int .i64 ((k : Nat) : Int)), (2, .string (⟨#[]⟩ : ByteArray)), (4, .bool false), (10, .bool false)] (fun U6 => ?_)
    apply h5
    refine wp_cond_false (by kernel_rfl) ?_
    apply wp_skip
    apply h4
    refine wp_seq_k (fun K7 h7 => ?_)
    refine W.region_sch (row := none) (Sch.of [(0, false), (1, false), (3, false), (4, false), (5, false), (6, false), (7, false), (8, false), (2, true), (9, false), (10, false)]) (by kernel_rfl) (by kernel_rfl) (fun _ d _ _ _ h => by cases d <;> exact h) (by kernel_rfl) (fun w7 e8 s9 => ?_)
    refine W.mv (v := .int .i64 ((k : Nat) : Int)) (h := ?_)
    refine W.q (v := .int .i64 ((k / 10 : Nat) : Int)) (hr := (r_quoK (k := .i64) (m := ((k : Nat) : Int)) (n := 10) (z := ((k / 10 : Nat) : Int)) rfl (by kernel_rfl) (by kernel_rfl) (by omega) (by rw [show Int.tdiv ((k : Nat) : Int) 10 = ((k / 10 : Nat) : Int) from rfl]; exact wrap_i64 (by omega) (by omega)))) (h := ?_)
    refine W.mv (v := .int .i64 ((k : Nat) : Int)) (h := ?_)
    refine W.q (v := .int .i64 ((k % 10 : Nat) : Int)) (hr := (r_remK (k := .i64) (m := ((k : Nat) : Int)) (n := 10) (z := ((k % 10 : Nat) : Int)) rfl (by kernel_rfl) (by kernel_rfl) (by omega) (rfl))) (h := ?_)
    refine W.mv (v := .int .i64 ((k : Nat) : Int)) (h := ?_)
    refine W.q (v := .int .i64 ((k % 10 : Nat) : Int)) (hr := (r_remK (k := .i64) (m := ((k : Nat) : Int)) (n := 10) (z := ((k % 10 : Nat) : Int)) rfl (by kernel_rfl) (by kernel_rfl) (by omega) (rfl))) (h := ?_)
    refine W.q (v := .int .i64 ((k % 10 + 1 : Nat) : Int)) (hr := (r_add (m := ((k % 10 : Nat) : Int)) (n := 1) (z := ((k % 10 + 1 : Nat) : Int)) rfl (by kernel_rfl) (by kernel_rfl) (by omega) (by omega))) (h := ?_)
    refine W.q (v := .string ((⟨#[48, 49, 50, 51, 52, 53, 54, 55, 56, 57]⟩ : ByteArray).extract (k % 10) (k % 10 + 1))) (hr := (r_cutS (s := (⟨#[48, 49, 50, 51, 52, 53, 54, 55, 56, 57]⟩ : ByteArray)) (l := k % 10) (h := k % 10 + 1) rfl (by kernel_rfl) (by kernel_rfl) (by kernel_rfl) (by kernel_rfl) (by omega) (by (try rw [show (⟨#[48, 49, 50, 51, 52, 53, 54, 55, 56, 57]⟩ : ByteArray).size = 10 from rfl]); omega))) (h := ?_)
    refine W.sc (vs := [.int .i64 ((k / 10 : Nat) : Int)]) rfl rfl (by kernel_rfl) (by kernel_rfl) (by kernel_rfl) rfl (IH (k / 10) (by omega) _ (by omega)) ?_
    rintro e w11 ⟨rfl, b10⟩
    have s12 := SG.of_below s9 b10
    refine ⟨_, rfl, s12, ?_⟩
    refine W.q (v := .string ((itoaB ((k / 10 : Nat) : Int)) ++ ((⟨#[48, 49, 50, 51, 52, 53, 54, 55, 56, 57]⟩ : ByteArray).extract (k % 10) (k % 10 + 1)))) (hr := (r_addS (s := (itoaB ((k / 10 : Nat) : Int))) (r := ((⟨#[48, 49, 50, 51, 52, 53, 54, 55, 56, 57]⟩ : ByteArray).extract (k % 10) (k % 10 + 1))) rfl (by kernel_rfl) (by kernel_rfl) (by rw [dig_cut (by omega)]; have h9 := itoaB_le (n := ((k / 10 : Nat) : Int)) (by omega) (by omega); have h8 := size1 (UInt8.ofNat (48 + k % 10)); omega))) (h := ?_)
    refine W.as (v := .string ((itoaB ((k / 10 : Nat) : Int)) ++ ((⟨#[48, 49, 50, 51, 52, 53, 54, 55, 56, 57]⟩ : ByteArray).extract (k % 10) (k % 10 + 1)))) (h := ?_)
    refine W.endF 25 [(0, .int .i64 ((k : Nat) : Int)), (2, .string ((itoaB ((k / 10 : Nat) : Int)) ++ ((⟨#[48, 49, 50, 51, 52, 53, 54, 55, 56, 57]⟩ : ByteArray).extract (k % 10) (k % 10 + 1)))), (4, .bool false), (10, .bool false)] (fun U13 => ?_)
    have c14 := (Sb (Below.refl _ _) s12 nkk)
    apply h7
    refine wp_ret ?_
    try simp only [Exit.then]
    refine ret1 (v := .string ((itoaB ((k / 10 : Nat) : Int)) ++ ((⟨#[48, 49, 50, 51, 52, 53, 54, 55, 56, 57]⟩ : ByteArray).extract (k % 10) (k % 10 + 1)))) rfl (by kernel_rfl) ?_
    exact ⟨by rw [itoaB_step (k := k) (by omega), dig_cut (by omega)], c14⟩
theorem l1Num_nat (k : Nat) : ∀ w : World, k ≤ 1000000000000000 → Calls Tryd.prog 68 #[.int .i64 ((k : Nat) : Int)] w fun e w' => e = .returned (.string (itoaB ((k : Nat) : Int))) ∧ Below w.heap.size w w' := by
  induction k using Nat.strongRecOn with
  | ind k ih => intro w h; exact l1Num_step k w h ih
set_option maxRecDepth 100000 in
set_option maxHeartbeats 1000000 in
theorem l1Num_neg (k : Nat) (w : World) (hk : k ≤ 1000000000000000) (hk1 : 1 ≤ k) :
    Calls Tryd.prog 68 #[.int .i64 (-((k : Nat) : Int))] w fun e w' => e = .returned (.string (itoaB (-((k : Nat) : Int)))) ∧ Below w.heap.size w w' := by
  go_enter Tryd.func68, Tryd.ntmps68
  refine wp_seq_k (fun K1 h1 => ?_)
  refine W.region_quiet [(0, false)] (by kernel_rfl) ?_
  refine W.as (v := .string (⟨#[]⟩ : ByteArray)) (h := ?_)
  refine W.endF 25 [(0, .int .i64 (-((k : Nat) : Int))), (2, .string (⟨#[]⟩ : ByteArray))] (fun U1 => ?_)
  apply h1
  refine wp_seq_k (fun K2 h2 => ?_)
  refine wp_seq_k (fun K3 h3 => ?_)
  refine W.region_quiet [(0, false), (1, false)] (by kernel_rfl) ?_
  refine W.mv (v := .int .i64 (-((k : Nat) : Int))) (h := ?_)
  refine W.q (v := .bool true) (hr := (r_lss (m := (-((k : Nat) : Int))) (n := 0) rfl (by kernel_rfl) (by kernel_rfl) (dt (by omega)))) (h := ?_)
  refine W.endF 25 [(0, .int .i64 (-((k : Nat) : Int))), (2, .string (⟨#[]⟩ : ByteArray)), (4, .bool true)] (fun U2 => ?_)
  apply h3
  refine wp_cond_true (by kernel_rfl) ?_
  refine wp_seq_k (fun K4 h4 => ?_)
  refine W.region_plain (row := none) [(0, false), (1, false), (2, true), (3, false), (4, false)] (by kernel_rfl) ?_
  have s3 := SG.self w none
  refine W.mv (v := .int .i64 (-((k : Nat) : Int))) (h := ?_)
  refine W.q (v := .int .i64 ((k : Nat) : Int)) (hr := (r_neg (k := .i64) (m := (-((k : Nat) : Int))) (z := ((k : Nat) : Int)) rfl (by kernel_rfl) (by rw [Int.neg_neg]; exact wrap_i64 (by omega) (by omega)))) (h := ?_)
  refine W.sc (vs := [.int .i64 ((k : Nat) : Int)]) rfl rfl (by kernel_rfl) (by kernel_rfl) (by kernel_rfl) rfl (l1Num_nat k _ (by omega)) ?_
  rintro e w5 ⟨rfl, b4⟩
  have s6 := SG.of_below s3 b4
  refine ⟨_, rfl, s6, ?_⟩
  refine W.q (v := .string ((⟨#[45]⟩ : ByteArray) ++ (itoaB ((k : Nat) : Int)))) (hr := (r_addS (s := (⟨#[45]⟩ : ByteArray)) (r := (itoaB ((k : Nat) : Int))) rfl (by kernel_rfl) (by kernel_rfl) (by have h9 := itoaB_le (n := ((k : Nat) : Int)) (by omega) (by omega); have h8 := size1 45; omega))) (h := ?_)
  refine W.as (v := .string ((⟨#[45]⟩ : ByteArray) ++ (itoaB ((k : Nat) : Int)))) (h := ?_)
  refine W.endF 25 [(0, .int .i64 (-((k : Nat) : Int))), (2, .string ((⟨#[45]⟩ : ByteArray) ++ (itoaB ((k : Nat) : Int)))), (4, .bool true)] (fun U7 => ?_)
  have c8 := (Sb (Below.refl _ _) s6 nkk)
  apply h4
  refine wp_ret ?_
  try simp only [Exit.then]
  refine ret1 (v := .string ((⟨#[45]⟩ : ByteArray) ++ (itoaB ((k : Nat) : Int)))) rfl (by kernel_rfl) ?_
  exact ⟨by rw [itoaB_neg hk1], c8⟩
theorem l1Num_any (n : Int) (h0 : -1000000000000000 ≤ n) (h1 : n ≤ 1000000000000000) (w : World) : Calls Tryd.prog 68 #[.int .i64 n] w fun e w' => e = .returned (.string (itoaB n)) ∧ Below w.heap.size w w' := by
  by_cases h : n < 0
  · obtain ⟨k, hk⟩ : ∃ k : Nat, n = -(k : Int) := ⟨n.natAbs, by omega⟩
    subst hk
    exact l1Num_neg k w (by omega) (by omega)
  · obtain ⟨k, rfl⟩ := Int.eq_ofNat_of_zero_le (show 0 ≤ n by omega)
    exact l1Num_nat k w (by omega)
set_option maxRecDepth 100000 in
set_option maxHeartbeats 1000000 in
theorem l1Read_any (s : ByteArray) (w : World) (hs : s.size ≤ 1048576) :
    Calls Tryd.prog 71 #[.string s] w fun e w' => e = .returned (.tuple #[.int .i64 (ParseInt_v0 s), .bool (ParseInt_v1 s)]) ∧ Below w.heap.size w w' := by
  go_enter Tryd.func71, Tryd.ntmps71
  refine wp_seq_k (fun K1 h1 => ?_)
  refine W.region_quiet [(0, false), (1, false)] (by kernel_rfl) ?_
  refine W.as (v := .int .i64 0) (h := ?_)
  refine W.as (v := .bool false) (h := ?_)
  refine W.endF 58 [(0, .string s), (2, .int .i64 0), (3, .bool false)] (fun U1 => ?_)
  apply h1
  refine wp_seq_k (fun K2 h2 => ?_)
  refine W.region_quiet [(0, false), (1, false)] (by kernel_rfl) ?_
  refine W.mv (v := .string s) (h := ?_)
  refine W.as (v := .string s) (h := ?_)
  refine W.endF 58 [(0, .string s), (2, .int .i64 0), (3, .bool false), (4, .string s)] (fun U2 => ?_)
  apply h2
  refine wp_seq_k (fun K3 h3 => ?_)
  refine wp_seq_k (fun K4 h4 => ?_)
  refine W.region_quiet [(0, false), (1, false), (2, false), (3, false), (4, false), (5, false), (6, false), (7, false)] (by kernel_rfl) ?_
  refine W.mv (v := .string s) (h := ?_)
  refine W.q (v := .int .i64 ((s.size : Nat) : Int)) (hr := (r_lenS (s := s) rfl (by kernel_rfl) (by kernel_rfl))) (h := ?_)
  by_cases q3 : (((s.size : Nat) : Int) : Int) > (1 : Int)
  · refine W.q (v := .bool true) (hr := (r_gtr (m := ((s.size : Nat) : Int)) (n := 1) rfl (by kernel_rfl) (by kernel_rfl) (dt q3))) (h := ?_)
    refine W.mv (v := .bool true) (h := ?_)
    refine W.mv (v := .string s) (h := ?_)
    refine W.q (v := .int .u8 ((bAt s 0 : Nat) : Int)) (hr := (r_indexS (s := s) (k := 0) rfl (by kernel_rfl) (by kernel_rfl) (by kernel_rfl) (by omega))) (h := ?_)
    by_cases q4 : (((bAt s 0 : Nat) : Int) : Int) = (45 : Int)
    · refine W.q (v := .bool true) (hr := (r_eqlK (k := .u8) (m := ((bAt s 0 : Nat) : Int)) (n := 45) rfl (by kernel_rfl) (by kernel_rfl) (dt q4))) (h := ?_)
      refine W.q (v := .bool true) (hr := (r_pick (b := true) rfl (by kernel_rfl) (by kernel_rfl))) (h := ?_)
      refine W.endF 58 [(0, .string s), (2, .int .i64 0), (3, .bool false), (4, .string s), (15, .bool true)] (fun U5 => ?_)
      apply h4
      refine wp_cond_true (by kernel_rfl) ?_
      refine W.region_quiet [(0, false), (1, false), (2, false)] (by kernel_rfl) ?_
      refine W.mv (v := .string s) (h := ?_)
      refine W.q (v := .string (s.extract 1 s.size)) (hr := (r_fromS (s := s) (l := 1) rfl (by kernel_rfl) (by kernel_rfl) (by kernel_rfl) (by omega))) (h := ?_)
      refine W.as (v := .string (s.extract 1 s.size)) (h := ?_)
      refine W.endF 58 [(0, .string s), (2, .int .i64 0), (3, .bool false), (4, .string (s.extract 1 s.size)), (15, .bool true)] (fun U6 => ?_)
      apply h3
      refine wp_seq_k (fun K5 h5 => ?_)
      refine wp_seq_k (fun K6 h6 => ?_)
      refine W.region_plain (row := none) [(0, false), (1, false), (2, true), (3, false)] (by kernel_rfl) ?_
      have s7 := SG.self w none
      refine W.mv (v := .string (s.extract 1 s.size)) (h := ?_)
      refine W.q (v := .int .i64 (((s.extract 1 s.size).size : Nat) : Int)) (hr := (r_lenS (s := (s.extract 1 s.size)) rfl (by kernel_rfl) (by kernel_rfl))) (h := ?_)
      refine W.sc (vs := [.int .i64 (((s.extract 1 s.size).size : Nat) : Int), .int .i64 1, .int .i64 6]) rfl rfl (by kernel_rfl) (by kernel_rfl) (by kernel_rfl) rfl (l1In_any (((s.extract 1 s.size).size : Nat) : Int) 1 6 _) ?_
      rintro e w' ⟨rfl, rfl⟩
      refine ⟨_, rfl, s7, ?_⟩
      rcases Bool.eq_false_or_eq_true (inB (((s.extract 1 s.size).size : Nat) : Int) 1 6) with q10 | q10
      · rw [q10]
        refine W.q (v := .bool false) (hr := (r_not (b := true) rfl (by kernel_rfl) rfl)) (h := ?_)
        refine W.endF 58 [(0, .string s), (2, .int .i64 0), (3, .bool false), (4, .string (s.extract 1 s.size)), (15, .bool true), (21, .bool false)] (fun U11 => ?_)
        have c12 := (Sb (Below.refl _ _) s7 nkk)
        apply h6
        refine wp_cond_false (by kernel_rfl) ?_
        apply wp_skip
        apply h5
        refine wp_seq_k (fun K7 h7 => ?_)
        refine W.region_quiet [(0, false)] (by kernel_rfl) ?_
        refine W.as (v := .int .i64 0) (h := ?_)
        refine W.endF 58 [(0, .string s), (2, .int .i64 0), (3, .bool false), (4, .string (s.extract 1 s.size)), (5, .int .i64 0), (15, .bool true), (21, .bool false)] (fun U13 => ?_)
        apply h7
        refine wp_seq_k (fun K8 h8 => ?_)
        refine wp_seq_k (fun K9 h9 => ?_)
        refine W.region_quiet [(0, false)] (by kernel_rfl) ?_
        refine W.as (v := .int .i64 0) (h := ?_)
        refine W.endF 58 [(0, .string s), (2, .int .i64 0), (3, .bool false), (4, .string (s.extract 1 s.size)), (5, .int .i64 0), (6, .int .i64 0), (15, .bool true), (21, .bool false)] (fun U14 => ?_)
        apply h9
        refine wp_block ?_
        have hst : stripB s = (s.extract 1 s.size) := strip_yes (by omega) (by omega)
        have hsz := ext_size (s := s) (by omega)
        have hbn := inB_yes.1 q10
        have hbl : (stripB s).size ≤ 6 := by rw [hst]; omega
        refine loopK (fun am0 aa0 wl0 => ∃ (i : Nat) (n : Nat) (U0 : Nat → Value), aa0 = ⟨(fr U0 [(0, .string s), (2, .int .i64 0), (3, .bool false), (4, .string (s.extract 1 s.size)), (5, .int .i64 ((n : Nat) : Int)), (6, .int .i64 ((i : Nat) : Int)), (15, .bool true), (21, .bool false)] 58 0).toArray, []⟩ ∧ (am0 = (s.extract 1 s.size).size - i) ∧ (i ≤ (s.extract 1 s.size).size) ∧ (Lib.decFrom 0 ((s.extract 1 s.size).data.toList.take i) = some n) ∧ (n < 1000000) ∧ (Below w.heap.size w wl0)) ((s.extract 1 s.size).size - 0) ?_ ?_
        · exact ⟨0, 0, (fun iU9 => lk [(0, .string s), (2, .int .i64 0), (3, .bool false), (4, .string (s.extract 1 s.size)), (5, .int .i64 0), (6, .int .i64 0), (15, .bool true), (21, .bool false)] iU9 (U14 iU9)), (by kernel_rfl), rfl, (Nat.zero_le _), rfl, (by omega), c12⟩
        rintro am0 aa0 wl0 K10 h10 ⟨i, n, U0, rfl, rfl, hi, hdec, hn6, c15⟩
        refine wp_seq_k (fun K11 h11 => ?_)
        refine wp_seq_k (fun K12 h12 => ?_)
        refine W.region_quiet [(0, false), (1, false), (2, false), (3, false)] (by kernel_rfl) ?_
        refine W.mv (v := .int .i64 ((i : Nat) : Int)) (h := ?_)
        refine W.mv (v := .string (s.extract 1 s.size)) (h := ?_)
        refine W.q (v := .int .i64 (((s.extract 1 s.size).size : Nat) : Int)) (hr := (r_lenS (s := (s.extract 1 s.size)) rfl (by kernel_rfl) (by kernel_rfl))) (h := ?_)
        by_cases q16 : (((i : Nat) : Int) : Int) < ((((s.extract 1 s.size).size : Nat) : Int) : Int)
        · refine W.q (v := .bool true) (hr := (r_lss (m := ((i : Nat) : Int)) (n := (((s.extract 1 s.size).size : Nat) : Int)) rfl (by kernel_rfl) (by kernel_rfl) (dt q16))) (h := ?_)
          refine W.endF 58 [(0, .string s), (2, .int .i64 0), (3, .bool false), (4, .string (s.extract 1 s.size)), (5, .int .i64 ((n : Nat) : Int)), (6, .int .i64 ((i : Nat) : Int)), (15, .bool true), (21, .bool false), (25, .bool true)] (fun U17 => ?_)
          apply h12
          refine wp_cond_true (by kernel_rfl) ?_
          apply wp_skip
          apply h11
          refine wp_seq_k (fun K13 h13 => ?_)
          refine wp_block ?_
          refine wp_seq_k (fun K14 h14 => ?_)
          refine wp_seq_k (fun K15 h15 => ?_)
          refine W.region_quiet [(0, false), (1, false), (2, false), (3, false), (4, false), (5, false), (6, false), (7, false), (8, false), (9, false)] (by kernel_rfl) ?_
          refine W.mv (v := .string (s.extract 1 s.size)) (h := ?_)
          refine W.mv (v := .int .i64 ((i : Nat) : Int)) (h := ?_)
          refine W.q (v := .int .u8 ((bAt (s.extract 1 s.size) i : Nat) : Int)) (hr := (r_indexS (s := (s.extract 1 s.size)) (k := i) rfl (by kernel_rfl) (by kernel_rfl) (by kernel_rfl) (by omega))) (h := ?_)
          by_cases q18 : (((bAt (s.extract 1 s.size) i : Nat) : Int) : Int) < (48 : Int)
          · refine W.q (v := .bool true) (hr := (r_lssK (k := .u8) (m := ((bAt (s.extract 1 s.size) i : Nat) : Int)) (n := 48) rfl (by kernel_rfl) (by kernel_rfl) (dt q18))) (h := ?_)
            refine W.mv (v := .bool true) (h := ?_)
            refine W.sp rfl (h := ?_)
            refine W.sp rfl (h := ?_)
            refine W.sp rfl (h := ?_)
            refine W.sp rfl (h := ?_)
            refine W.q (v := .bool true) (hr := (r_pick (b := true) rfl (by kernel_rfl) (by kernel_rfl))) (h := ?_)
            refine W.endF 58 [(0, .string s), (2, .int .i64 0), (3, .bool false), (4, .string (s.extract 1 s.size)), (5, .int .i64 ((n : Nat) : Int)), (6, .int .i64 ((i : Nat) : Int)), (15, .bool true), (21, .bool false), (25, .bool true), (37, .bool true)] (fun U19 => ?_)
            apply h15
            refine wp_cond_true (by kernel_rfl) ?_
            refine wp_seq_k (fun K16 h16 => ?_)
            refine W.region_quiet [(0, false), (1, false)] (by kernel_rfl) ?_
            refine W.as (v := .int .i64 0) (h := ?_)
            refine W.as (v := .bool false) (h := ?_)
            refine W.endF 58 [(0, .string s), (2, .int .i64 0), (3, .bool false), (4, .string (s.extract 1 s.size)), (5, .int .i64 ((n : Nat) : Int)), (6, .int .i64 ((i : Nat) : Int)), (15, .bool true), (21, .bool false), (25, .bool true), (37, .bool true)] (fun U20 => ?_)
            apply h16
            refine wp_ret ?_
            try simp only [Exit.then, Exit.inBlock]
            refine ret2 (v := .int .i64 0) (x := .bool false) rfl (by kernel_rfl) (by kernel_rfl) ?_
            have hno : ¬ isNum s := fun h => by
              have h8 := num_digit (i := i) h (by rw [hst]; omega)
              rw [hst] at h8; omega
            obtain ⟨e1, e2⟩ := num_no hno
            exact ⟨by rw [e1, e2], c15⟩
          · refine W.q (v := .bool false) (hr := (r_lssK (k := .u8) (m := ((bAt (s.extract 1 s.size) i : Nat) : Int)) (n := 48) rfl (by kernel_rfl) (by kernel_rfl) (df q18))) (h := ?_)
            refine W.mv (v := .bool false) (h := ?_)
            refine W.mv (v := .string (s.extract 1 s.size)) (h := ?_)
            refine W.mv (v := .int .i64 ((i : Nat) : Int)) (h := ?_)
            refine W.q (v := .int .u8 ((bAt (s.extract 1 s.size) i : Nat) : Int)) (hr := (r_indexS (s := (s.extract 1 s.size)) (k := i) rfl (by kernel_rfl) (by kernel_rfl) (by kernel_rfl) (by omega))) (h := ?_)
            by_cases q21 : (((bAt (s.extract 1 s.size) i : Nat) : Int) : Int) > (57 : Int)
            · refine W.q (v := .bool true) (hr := (r_gtrK (k := .u8) (m := ((bAt (s.extract 1 s.size) i : Nat) : Int)) (n := 57) rfl (by kernel_rfl) (by kernel_rfl) (dt q21))) (h := ?_)
              refine W.q (v := .bool true) (hr := (r_pick (b := false) rfl (by kernel_rfl) (by kernel_rfl))) (h := ?_)
              refine W.endF 58 [(0, .string s), (2, .int .i64 0), (3, .bool false), (4, .string (s.extract 1 s.size)), (5, .int .i64 ((n : Nat) : Int)), (6, .int .i64 ((i : Nat) : Int)), (15, .bool true), (21, .bool false), (25, .bool true), (37, .bool true)] (fun U22 => ?_)
              apply h15
              refine wp_cond_true (by kernel_rfl) ?_
              refine wp_seq_k (fun K17 h17 => ?_)
              refine W.region_quiet [(0, false), (1, false)] (by kernel_rfl) ?_
              refine W.as (v := .int .i64 0) (h := ?_)
              refine W.as (v := .bool false) (h := ?_)
              refine W.endF 58 [(0, .string s), (2, .int .i64 0), (3, .bool false), (4, .string (s.extract 1 s.size)), (5, .int .i64 ((n : Nat) : Int)), (6, .int .i64 ((i : Nat) : Int)), (15, .bool true), (21, .bool false), (25, .bool true), (37, .bool true)] (fun U23 => ?_)
              apply h17
              refine wp_ret ?_
              try simp only [Exit.then, Exit.inBlock]
              refine ret2 (v := .int .i64 0) (x := .bool false) rfl (by kernel_rfl) (by kernel_rfl) ?_
              have hno : ¬ isNum s := fun h => by
                have h8 := num_digit (i := i) h (by rw [hst]; omega)
                rw [hst] at h8; omega
              obtain ⟨e1, e2⟩ := num_no hno
              exact ⟨by rw [e1, e2], c15⟩
            · refine W.q (v := .bool false) (hr := (r_gtrK (k := .u8) (m := ((bAt (s.extract 1 s.size) i : Nat) : Int)) (n := 57) rfl (by kernel_rfl) (by kernel_rfl) (df q21))) (h := ?_)
              refine W.q (v := .bool false) (hr := (r_pick (b := false) rfl (by kernel_rfl) (by kernel_rfl))) (h := ?_)
              refine W.endF 58 [(0, .string s), (2, .int .i64 0), (3, .bool false), (4, .string (s.extract 1 s.size)), (5, .int .i64 ((n : Nat) : Int)), (6, .int .i64 ((i : Nat) : Int)), (15, .bool true), (21, .bool false), (25, .bool true), (37, .bool false)] (fun U24 => ?_)
              apply h15
              refine wp_cond_false (by kernel_rfl) ?_
              apply wp_skip
              apply h14
              refine W.region_quiet [(0, false), (1, false), (2, false), (3, false), (4, false), (5, false), (6, false), (7, false), (8, false)] (by kernel_rfl) ?_
              refine W.mv (v := .int .i64 ((n : Nat) : Int)) (h := ?_)
              refine W.q (v := .int .i64 ((10 * n : Nat) : Int)) (hr := (r_mulK (k := .i64) (m := 10) (n := ((n : Nat) : Int)) (z := ((10 * n : Nat) : Int)) rfl (by kernel_rfl) (by kernel_rfl) (by rw [show (10 : Int) * ((n : Nat) : Int) = ((10 * n : Nat) : Int) by omega]; exact wrap_i64 (by omega) (by omega)))) (h := ?_)
              refine W.mv (v := .string (s.extract 1 s.size)) (h := ?_)
              refine W.mv (v := .int .i64 ((i : Nat) : Int)) (h := ?_)
              refine W.q (v := .int .u8 ((bAt (s.extract 1 s.size) i : Nat) : Int)) (hr := (r_indexS (s := (s.extract 1 s.size)) (k := i) rfl (by kernel_rfl) (by kernel_rfl) (by kernel_rfl) (by omega))) (h := ?_)
              refine W.q (v := .int .u8 (((bAt (s.extract 1 s.size) i - 48) : Nat) : Int)) (hr := (r_subK (k := .u8) (m := ((bAt (s.extract 1 s.size) i : Nat) : Int)) (n := 48) (z := (((bAt (s.extract 1 s.size) i - 48) : Nat) : Int)) rfl (by kernel_rfl) (by kernel_rfl) (by rw [show (((bAt (s.extract 1 s.size) i : Nat) : Int) - 48) = (((bAt (s.extract 1 s.size) i - 48 : Nat)) : Int) by omega]; exact IntWalk.u8_in _ (by have := bAt_lt (s.extract 1 s.size) i; omega)))) (h := ?_)
              refine W.q (v := .int .i64 (((bAt (s.extract 1 s.size) i - 48) : Nat) : Int)) (hr := (r_conv (k := .u8) (k' := .i64) (n := (((bAt (s.extract 1 s.size) i - 48) : Nat) : Int)) (m := (((bAt (s.extract 1 s.size) i - 48) : Nat) : Int)) rfl (by kernel_rfl) (by kernel_rfl) (by kernel_rfl) (wrap_i64 (by omega) (by omega)))) (h := ?_)
              refine W.q (v := .int .i64 ((10 * n + (bAt (s.extract 1 s.size) i - 48) : Nat) : Int)) (hr := (r_add (m := ((10 * n : Nat) : Int)) (n := (((bAt (s.extract 1 s.size) i - 48) : Nat) : Int)) (z := ((10 * n + (bAt (s.extract 1 s.size) i - 48) : Nat) : Int)) rfl (by kernel_rfl) (by kernel_rfl) (by omega) (by omega))) (h := ?_)
              refine W.as (v := .int .i64 ((10 * n + (bAt (s.extract 1 s.size) i - 48) : Nat) : Int)) (h := ?_)
              refine W.endF 58 [(0, .string s), (2, .int .i64 0), (3, .bool false), (4, .string (s.extract 1 s.size)), (5, .int .i64 ((10 * n + (bAt (s.extract 1 s.size) i - 48) : Nat) : Int)), (6, .int .i64 ((i : Nat) : Int)), (15, .bool true), (21, .bool false), (25, .bool true), (37, .bool false)] (fun U25 => ?_)
              apply h13
              refine W.region_quiet [(0, false), (1, false), (2, false)] (by kernel_rfl) ?_
              refine W.mv (v := .int .i64 ((i : Nat) : Int)) (h := ?_)
              refine W.q (v := .int .i64 ((i + 1 : Nat) : Int)) (hr := (r_add (m := ((i : Nat) : Int)) (n := 1) (z := ((i + 1 : Nat) : Int)) rfl (by kernel_rfl) (by kernel_rfl) (by omega) (by omega))) (h := ?_)
              refine W.as (v := .int .i64 ((i + 1 : Nat) : Int)) (h := ?_)
              refine W.endF 58 [(0, .string s), (2, .int .i64 0), (3, .bool false), (4, .string (s.extract 1 s.size)), (5, .int .i64 ((10 * n + (bAt (s.extract 1 s.size) i - 48) : Nat) : Int)), (6, .int .i64 ((i + 1 : Nat) : Int)), (15, .bool true), (21, .bool false), (25, .bool true), (37, .bool false)] (fun U26 => ?_)
              have hd2 : Lib.decFrom 0 ((s.extract 1 s.size).data.toList.take (i + 1)) = some (10 * n + (bAt (s.extract 1 s.size) i - 48)) := dec_step hdec (by omega) (by omega) (by omega)
              exact h10 _ _ _ (by omega : ((s.extract 1 s.size).size - (i + 1)) < _) ⟨i + 1, 10 * n + (bAt (s.extract 1 s.size) i - 48), (fun iU9 => lk [(0, .string s), (2, .int .i64 0), (3, .bool false), (4, .string (s.extract 1 s.size)), (5, .int .i64 ((10 * n + (bAt (s.extract 1 s.size) i - 48) : Nat) : Int)), (6, .int .i64 ((i + 1 : Nat) : Int)), (15, .bool true), (21, .bool false), (25, .bool true), (37, .bool false)] iU9 (U26 iU9)), (by kernel_rfl), rfl, (by omega), hd2, (val_lt6 (by have h9 : (s.extract 1 s.size).data.toList.length = (s.extract 1 s.size).size := (by simp); rw [List.length_take]; rw [hst] at hbl; omega) hd2), c15⟩
        · refine W.q (v := .bool false) (hr := (r_lss (m := ((i : Nat) : Int)) (n := (((s.extract 1 s.size).size : Nat) : Int)) rfl (by kernel_rfl) (by kernel_rfl) (df q16))) (h := ?_)
          refine W.endF 58 [(0, .string s), (2, .int .i64 0), (3, .bool false), (4, .string (s.extract 1 s.size)), (5, .int .i64 ((n : Nat) : Int)), (6, .int .i64 ((i : Nat) : Int)), (15, .bool true), (21, .bool false), (25, .bool false)] (fun U27 => ?_)
          apply h12
          refine wp_cond_false (by kernel_rfl) ?_
          refine wp_exit ?_
          apply h8
          refine wp_seq_k (fun K18 h18 => ?_)
          refine wp_seq_k (fun K19 h19 => ?_)
          refine W.region_quiet [(0, false), (1, false), (2, false), (3, false), (4, false)] (by kernel_rfl) ?_
          refine W.mv (v := .string (s.extract 1 s.size)) (h := ?_)
          refine W.q (v := .int .i64 (((s.extract 1 s.size).size : Nat) : Int)) (hr := (r_lenS (s := (s.extract 1 s.size)) rfl (by kernel_rfl) (by kernel_rfl))) (h := ?_)
          refine W.mv (v := .string s) (h := ?_)
          refine W.q (v := .int .i64 ((s.size : Nat) : Int)) (hr := (r_lenS (s := s) rfl (by kernel_rfl) (by kernel_rfl))) (h := ?_)
          refine W.q (v := .bool true) (hr := (r_lss (m := (((s.extract 1 s.size).size : Nat) : Int)) (n := ((s.size : Nat) : Int)) rfl (by kernel_rfl) (by kernel_rfl) (dt (by omega)))) (h := ?_)
          refine W.endF 58 [(0, .string s), (2, .int .i64 0), (3, .bool false), (4, .string (s.extract 1 s.size)), (5, .int .i64 ((n : Nat) : Int)), (6, .int .i64 ((i : Nat) : Int)), (15, .bool true), (21, .bool false), (25, .bool false), (50, .bool true)] (fun U28 => ?_)
          apply h19
          refine wp_cond_true (by kernel_rfl) ?_
          refine W.region_quiet [(0, false), (1, false), (2, false)] (by kernel_rfl) ?_
          refine W.mv (v := .int .i64 ((n : Nat) : Int)) (h := ?_)
          refine W.q (v := .int .i64 (-((n : Nat) : Int))) (hr := (r_neg (k := .i64) (m := ((n : Nat) : Int)) (z := (-((n : Nat) : Int))) rfl (by kernel_rfl) (wrap_i64 (by omega) (by omega)))) (h := ?_)
          refine W.as (v := .int .i64 (-((n : Nat) : Int))) (h := ?_)
          refine W.endF 58 [(0, .string s), (2, .int .i64 0), (3, .bool false), (4, .string (s.extract 1 s.size)), (5, .int .i64 (-((n : Nat) : Int))), (6, .int .i64 ((i : Nat) : Int)), (15, .bool true), (21, .bool false), (25, .bool false), (50, .bool true)] (fun U29 => ?_)
          apply h18
          refine wp_seq_k (fun K20 h20 => ?_)
          refine wp_seq_k (fun K21 h21 => ?_)
          refine W.region_plain (row := none) [(0, false), (1, true), (2, false), (3, false)] (by kernel_rfl) ?_
          have s30 := SG.self wl0 none
          refine W.mv (v := .int .i64 (-((n : Nat) : Int))) (h := ?_)
          refine W.sc (vs := [.int .i64 (-((n : Nat) : Int))]) rfl rfl (by kernel_rfl) (by kernel_rfl) (by kernel_rfl) rfl (l1Num_any (-((n : Nat) : Int)) (by omega) (by omega) _) ?_
          rintro e w32 ⟨rfl, b31⟩
          have s33 := SG.of_below s30 b31
          refine ⟨_, rfl, s33, ?_⟩
          refine W.mv (v := .string s) (h := ?_)
          by_cases q34 : (itoaB (-((n : Nat) : Int))) = s
          · refine W.q (v := .bool false) (hr := (r_neqS (s := (itoaB (-((n : Nat) : Int)))) (r := s) rfl (by kernel_rfl) (by kernel_rfl) (by rw [decide_eq_true q34]; rfl))) (h := ?_)
            refine W.endF 58 [(0, .string s), (2, .int .i64 0), (3, .bool false), (4, .string (s.extract 1 s.size)), (5, .int .i64 (-((n : Nat) : Int))), (6, .int .i64 ((i : Nat) : Int)), (15, .bool true), (21, .bool false), (25, .bool false), (50, .bool true), (56, .bool false)] (fun U35 => ?_)
            have c36 := (Sb c15 s33 nkk)
            apply h21
            refine wp_cond_false (by kernel_rfl) ?_
            apply wp_skip
            apply h20
            refine wp_seq_k (fun K22 h22 => ?_)
            refine W.region_quiet [(0, false), (1, false), (2, false)] (by kernel_rfl) ?_
            refine W.mv (v := .int .i64 (-((n : Nat) : Int))) (h := ?_)
            refine W.as (v := .int .i64 (-((n : Nat) : Int))) (h := ?_)
            refine W.as (v := .bool true) (h := ?_)
            refine W.endF 58 [(0, .string s), (2, .int .i64 (-((n : Nat) : Int))), (3, .bool true), (4, .string (s.extract 1 s.size)), (5, .int .i64 (-((n : Nat) : Int))), (6, .int .i64 ((i : Nat) : Int)), (15, .bool true), (21, .bool false), (25, .bool false), (50, .bool true), (56, .bool false)] (fun U37 => ?_)
            apply h22
            refine wp_ret ?_
            try simp only [Exit.then]
            refine ret2 (v := .int .i64 (-((n : Nat) : Int))) (x := .bool true) rfl (by kernel_rfl) (by kernel_rfl) ?_
            have hN : isNum s := ⟨_, ⟨by omega, by omega⟩, q34⟩
            obtain ⟨e1, e2⟩ := num_yes ⟨by omega, by omega⟩ q34
            exact ⟨by rw [e1, e2], c36⟩
          · refine W.q (v := .bool true) (hr := (r_neqS (s := (itoaB (-((n : Nat) : Int)))) (r := s) rfl (by kernel_rfl) (by kernel_rfl) (by rw [decide_eq_false q34]; rfl))) (h := ?_)
            refine W.endF 58 [(0, .string s), (2, .int .i64 0), (3, .bool false), (4, .string (s.extract 1 s.size)), (5, .int .i64 (-((n : Nat) : Int))), (6, .int .i64 ((i : Nat) : Int)), (15, .bool true), (21, .bool false), (25, .bool false), (50, .bool true), (56, .bool true)] (fun U38 => ?_)
            have c39 := (Sb c15 s33 nkk)
            apply h21
            refine wp_cond_true (by kernel_rfl) ?_
            refine wp_seq_k (fun K23 h23 => ?_)
            refine W.region_quiet [(0, false), (1, false)] (by kernel_rfl) ?_
            refine W.as (v := .int .i64 0) (h := ?_)
            refine W.as (v := .bool false) (h := ?_)
            refine W.endF 58 [(0, .string s), (2, .int .i64 0), (3, .bool false), (4, .string (s.extract 1 s.size)), (5, .int .i64 (-((n : Nat) : Int))), (6, .int .i64 ((i : Nat) : Int)), (15, .bool true), (21, .bool false), (25, .bool false), (50, .bool true), (56, .bool true)] (fun U40 => ?_)
            apply h23
            refine wp_ret ?_
            try simp only [Exit.then]
            refine ret2 (v := .int .i64 0) (x := .bool false) rfl (by kernel_rfl) (by kernel_rfl) ?_
            have hno : ¬ isNum s := fun h => by
              have h9 := num_value (n := n) h (by rw [hst]; rw [← take_all (t := (s.extract 1 s.size)) (i := i) (by omega)]; exact hdec)
              rw [hst] at h9
              exact q34 (h9.2.1 (by omega)).symm
            obtain ⟨e1, e2⟩ := num_no hno
            exact ⟨by rw [e1, e2], c39⟩
      · rw [q10]
        refine W.q (v := .bool true) (hr := (r_not (b := false) rfl (by kernel_rfl) rfl)) (h := ?_)
        refine W.endF 58 [(0, .string s), (2, .int .i64 0), (3, .bool false), (4, .string (s.extract 1 s.size)), (15, .bool true), (21, .bool true)] (fun U41 => ?_)
        have c42 := (Sb (Below.refl _ _) s7 nkk)
        apply h6
        refine wp_cond_true (by kernel_rfl) ?_
        refine wp_seq_k (fun K24 h24 => ?_)
        refine W.region_quiet [(0, false), (1, false)] (by kernel_rfl) ?_
        refine W.as (v := .int .i64 0) (h := ?_)
        refine W.as (v := .bool false) (h := ?_)
        refine W.endF 58 [(0, .string s), (2, .int .i64 0), (3, .bool false), (4, .string (s.extract 1 s.size)), (15, .bool true), (21, .bool true)] (fun U43 => ?_)
        apply h24
        refine wp_ret ?_
        try simp only [Exit.then]
        refine ret2 (v := .int .i64 0) (x := .bool false) rfl (by kernel_rfl) (by kernel_rfl) ?_
        have hst : stripB s = (s.extract 1 s.size) := strip_yes (by omega) (by omega)
        have hsz := ext_size (s := s) (by omega)
        have hno : ¬ isNum s := fun h => by
          have h8 := num_strip_len h
          rw [hst] at h8
          have h7 := inB_no.1 q10
          omega
        obtain ⟨e1, e2⟩ := num_no hno
        exact ⟨by rw [e1, e2], c42⟩
    · refine W.q (v := .bool false) (hr := (r_eqlK (k := .u8) (m := ((bAt s 0 : Nat) : Int)) (n := 45) rfl (by kernel_rfl) (by kernel_rfl) (df q4))) (h := ?_)
      refine W.q (v := .bool false) (hr := (r_pick (b := true) rfl (by kernel_rfl) (by kernel_rfl))) (h := ?_)
      refine W.endF 58 [(0, .string s), (2, .int .i64 0), (3, .bool false), (4, .string s), (15, .bool false)] (fun U44 => ?_)
      apply h4
      refine wp_cond_false (by kernel_rfl) ?_
      apply wp_skip
      apply h3
      refine wp_seq_k (fun K25 h25 => ?_)
      refine wp_seq_k (fun K26 h26 => ?_)
      refine W.region_plain (row := none) [(0, false), (1, false), (2, true), (3, false)] (by kernel_rfl) ?_
      have s45 := SG.self w none
      refine W.mv (v := .string s) (h := ?_)
      refine W.q (v := .int .i64 ((s.size : Nat) : Int)) (hr := (r_lenS (s := s) rfl (by kernel_rfl) (by kernel_rfl))) (h := ?_)
      refine W.sc (vs := [.int .i64 ((s.size : Nat) : Int), .int .i64 1, .int .i64 6]) rfl rfl (by kernel_rfl) (by kernel_rfl) (by kernel_rfl) rfl (l1In_any ((s.size : Nat) : Int) 1 6 _) ?_
      rintro e w' ⟨rfl, rfl⟩
      refine ⟨_, rfl, s45, ?_⟩
      rcases Bool.eq_false_or_eq_true (inB ((s.size : Nat) : Int) 1 6) with q48 | q48
      · rw [q48]
        refine W.q (v := .bool false) (hr := (r_not (b := true) rfl (by kernel_rfl) rfl)) (h := ?_)
        refine W.endF 58 [(0, .string s), (2, .int .i64 0), (3, .bool false), (4, .string s), (15, .bool false), (21, .bool false)] (fun U49 => ?_)
        have c50 := (Sb (Below.refl _ _) s45 nkk)
        apply h26
        refine wp_cond_false (by kernel_rfl) ?_
        apply wp_skip
        apply h25
        refine wp_seq_k (fun K27 h27 => ?_)
        refine W.region_quiet [(0, false)] (by kernel_rfl) ?_
        refine W.as (v := .int .i64 0) (h := ?_)
        refine W.endF 58 [(0, .string s), (2, .int .i64 0), (3, .bool false), (4, .string s), (5, .int .i64 0), (15, .bool false), (21, .bool false)] (fun U51 => ?_)
        apply h27
        refine wp_seq_k (fun K28 h28 => ?_)
        refine wp_seq_k (fun K29 h29 => ?_)
        refine W.region_quiet [(0, false)] (by kernel_rfl) ?_
        refine W.as (v := .int .i64 0) (h := ?_)
        refine W.endF 58 [(0, .string s), (2, .int .i64 0), (3, .bool false), (4, .string s), (5, .int .i64 0), (6, .int .i64 0), (15, .bool false), (21, .bool false)] (fun U52 => ?_)
        apply h29
        refine wp_block ?_
        have hst : stripB s = s := strip_no (by omega)
        have hbn := inB_yes.1 q48
        have hbl : (stripB s).size ≤ 6 := by rw [hst]; omega
        refine loopK (fun am0 aa0 wl0 => ∃ (i : Nat) (n : Nat) (U0 : Nat → Value), aa0 = ⟨(fr U0 [(0, .string s), (2, .int .i64 0), (3, .bool false), (4, .string s), (5, .int .i64 ((n : Nat) : Int)), (6, .int .i64 ((i : Nat) : Int)), (15, .bool false), (21, .bool false)] 58 0).toArray, []⟩ ∧ (am0 = s.size - i) ∧ (i ≤ s.size) ∧ (Lib.decFrom 0 (s.data.toList.take i) = some n) ∧ (n < 1000000) ∧ (Below w.heap.size w wl0)) (s.size - 0) ?_ ?_
        · exact ⟨0, 0, (fun iU9 => lk [(0, .string s), (2, .int .i64 0), (3, .bool false), (4, .string s), (5, .int .i64 0), (6, .int .i64 0), (15, .bool false), (21, .bool false)] iU9 (U52 iU9)), (by kernel_rfl), rfl, (Nat.zero_le _), rfl, (by omega), c50⟩
        rintro am0 aa0 wl0 K30 h30 ⟨i, n, U0, rfl, rfl, hi, hdec, hn6, c53⟩
        refine wp_seq_k (fun K31 h31 => ?_)
        refine wp_seq_k (fun K32 h32 => ?_)
        refine W.region_quiet [(0, false), (1, false), (2, false), (3, false)] (by kernel_rfl) ?_
        refine W.mv (v := .int .i64 ((i : Nat) : Int)) (h := ?_)
        refine W.mv (v := .string s) (h := ?_)
        refine W.q (v := .int .i64 ((s.size : Nat) : Int)) (hr := (r_lenS (s := s) rfl (by kernel_rfl) (by kernel_rfl))) (h := ?_)
        by_cases q54 : (((i : Nat) : Int) : Int) < (((s.size : Nat) : Int) : Int)
        · refine W.q (v := .bool true) (hr := (r_lss (m := ((i : Nat) : Int)) (n := ((s.size : Nat) : Int)) rfl (by kernel_rfl) (by kernel_rfl) (dt q54))) (h := ?_)
          refine W.endF 58 [(0, .string s), (2, .int .i64 0), (3, .bool false), (4, .string s), (5, .int .i64 ((n : Nat) : Int)), (6, .int .i64 ((i : Nat) : Int)), (15, .bool false), (21, .bool false), (25, .bool true)] (fun U55 => ?_)
          apply h32
          refine wp_cond_true (by kernel_rfl) ?_
          apply wp_skip
          apply h31
          refine wp_seq_k (fun K33 h33 => ?_)
          refine wp_block ?_
          refine wp_seq_k (fun K34 h34 => ?_)
          refine wp_seq_k (fun K35 h35 => ?_)
          refine W.region_quiet [(0, false), (1, false), (2, false), (3, false), (4, false), (5, false), (6, false), (7, false), (8, false), (9, false)] (by kernel_rfl) ?_
          refine W.mv (v := .string s) (h := ?_)
          refine W.mv (v := .int .i64 ((i : Nat) : Int)) (h := ?_)
          refine W.q (v := .int .u8 ((bAt s i : Nat) : Int)) (hr := (r_indexS (s := s) (k := i) rfl (by kernel_rfl) (by kernel_rfl) (by kernel_rfl) (by omega))) (h := ?_)
          by_cases q56 : (((bAt s i : Nat) : Int) : Int) < (48 : Int)
          · refine W.q (v := .bool true) (hr := (r_lssK (k := .u8) (m := ((bAt s i : Nat) : Int)) (n := 48) rfl (by kernel_rfl) (by kernel_rfl) (dt q56))) (h := ?_)
            refine W.mv (v := .bool true) (h := ?_)
            refine W.sp rfl (h := ?_)
            refine W.sp rfl (h := ?_)
            refine W.sp rfl (h := ?_)
            refine W.sp rfl (h := ?_)
            refine W.q (v := .bool true) (hr := (r_pick (b := true) rfl (by kernel_rfl) (by kernel_rfl))) (h := ?_)
            refine W.endF 58 [(0, .string s), (2, .int .i64 0), (3, .bool false), (4, .string s), (5, .int .i64 ((n : Nat) : Int)), (6, .int .i64 ((i : Nat) : Int)), (15, .bool false), (21, .bool false), (25, .bool true), (37, .bool true)] (fun U57 => ?_)
            apply h35
            refine wp_cond_true (by kernel_rfl) ?_
            refine wp_seq_k (fun K36 h36 => ?_)
            refine W.region_quiet [(0, false), (1, false)] (by kernel_rfl) ?_
            refine W.as (v := .int .i64 0) (h := ?_)
            refine W.as (v := .bool false) (h := ?_)
            refine W.endF 58 [(0, .string s), (2, .int .i64 0), (3, .bool false), (4, .string s), (5, .int .i64 ((n : Nat) : Int)), (6, .int .i64 ((i : Nat) : Int)), (15, .bool false), (21, .bool false), (25, .bool true), (37, .bool true)] (fun U58 => ?_)
            apply h36
            refine wp_ret ?_
            try simp only [Exit.then, Exit.inBlock]
            refine ret2 (v := .int .i64 0) (x := .bool false) rfl (by kernel_rfl) (by kernel_rfl) ?_
            have hno : ¬ isNum s := fun h => by
              have h8 := num_digit (i := i) h (by rw [hst]; omega)
              rw [hst] at h8; omega
            obtain ⟨e1, e2⟩ := num_no hno
            exact ⟨by rw [e1, e2], c53⟩
          · refine W.q (v := .bool false) (hr := (r_lssK (k := .u8) (m := ((bAt s i : Nat) : Int)) (n := 48) rfl (by kernel_rfl) (by kernel_rfl) (df q56))) (h := ?_)
            refine W.mv (v := .bool false) (h := ?_)
            refine W.mv (v := .string s) (h := ?_)
            refine W.mv (v := .int .i64 ((i : Nat) : Int)) (h := ?_)
            refine W.q (v := .int .u8 ((bAt s i : Nat) : Int)) (hr := (r_indexS (s := s) (k := i) rfl (by kernel_rfl) (by kernel_rfl) (by kernel_rfl) (by omega))) (h := ?_)
            by_cases q59 : (((bAt s i : Nat) : Int) : Int) > (57 : Int)
            · refine W.q (v := .bool true) (hr := (r_gtrK (k := .u8) (m := ((bAt s i : Nat) : Int)) (n := 57) rfl (by kernel_rfl) (by kernel_rfl) (dt q59))) (h := ?_)
              refine W.q (v := .bool true) (hr := (r_pick (b := false) rfl (by kernel_rfl) (by kernel_rfl))) (h := ?_)
              refine W.endF 58 [(0, .string s), (2, .int .i64 0), (3, .bool false), (4, .string s), (5, .int .i64 ((n : Nat) : Int)), (6, .int .i64 ((i : Nat) : Int)), (15, .bool false), (21, .bool false), (25, .bool true), (37, .bool true)] (fun U60 => ?_)
              apply h35
              refine wp_cond_true (by kernel_rfl) ?_
              refine wp_seq_k (fun K37 h37 => ?_)
              refine W.region_quiet [(0, false), (1, false)] (by kernel_rfl) ?_
              refine W.as (v := .int .i64 0) (h := ?_)
              refine W.as (v := .bool false) (h := ?_)
              refine W.endF 58 [(0, .string s), (2, .int .i64 0), (3, .bool false), (4, .string s), (5, .int .i64 ((n : Nat) : Int)), (6, .int .i64 ((i : Nat) : Int)), (15, .bool false), (21, .bool false), (25, .bool true), (37, .bool true)] (fun U61 => ?_)
              apply h37
              refine wp_ret ?_
              try simp only [Exit.then, Exit.inBlock]
              refine ret2 (v := .int .i64 0) (x := .bool false) rfl (by kernel_rfl) (by kernel_rfl) ?_
              have hno : ¬ isNum s := fun h => by
                have h8 := num_digit (i := i) h (by rw [hst]; omega)
                rw [hst] at h8; omega
              obtain ⟨e1, e2⟩ := num_no hno
              exact ⟨by rw [e1, e2], c53⟩
            · refine W.q (v := .bool false) (hr := (r_gtrK (k := .u8) (m := ((bAt s i : Nat) : Int)) (n := 57) rfl (by kernel_rfl) (by kernel_rfl) (df q59))) (h := ?_)
              refine W.q (v := .bool false) (hr := (r_pick (b := false) rfl (by kernel_rfl) (by kernel_rfl))) (h := ?_)
              refine W.endF 58 [(0, .string s), (2, .int .i64 0), (3, .bool false), (4, .string s), (5, .int .i64 ((n : Nat) : Int)), (6, .int .i64 ((i : Nat) : Int)), (15, .bool false), (21, .bool false), (25, .bool true), (37, .bool false)] (fun U62 => ?_)
              apply h35
              refine wp_cond_false (by kernel_rfl) ?_
              apply wp_skip
              apply h34
              refine W.region_quiet [(0, false), (1, false), (2, false), (3, false), (4, false), (5, false), (6, false), (7, false), (8, false)] (by kernel_rfl) ?_
              refine W.mv (v := .int .i64 ((n : Nat) : Int)) (h := ?_)
              refine W.q (v := .int .i64 ((10 * n : Nat) : Int)) (hr := (r_mulK (k := .i64) (m := 10) (n := ((n : Nat) : Int)) (z := ((10 * n : Nat) : Int)) rfl (by kernel_rfl) (by kernel_rfl) (by rw [show (10 : Int) * ((n : Nat) : Int) = ((10 * n : Nat) : Int) by omega]; exact wrap_i64 (by omega) (by omega)))) (h := ?_)
              refine W.mv (v := .string s) (h := ?_)
              refine W.mv (v := .int .i64 ((i : Nat) : Int)) (h := ?_)
              refine W.q (v := .int .u8 ((bAt s i : Nat) : Int)) (hr := (r_indexS (s := s) (k := i) rfl (by kernel_rfl) (by kernel_rfl) (by kernel_rfl) (by omega))) (h := ?_)
              refine W.q (v := .int .u8 (((bAt s i - 48) : Nat) : Int)) (hr := (r_subK (k := .u8) (m := ((bAt s i : Nat) : Int)) (n := 48) (z := (((bAt s i - 48) : Nat) : Int)) rfl (by kernel_rfl) (by kernel_rfl) (by rw [show (((bAt s i : Nat) : Int) - 48) = (((bAt s i - 48 : Nat)) : Int) by omega]; exact IntWalk.u8_in _ (by have := bAt_lt s i; omega)))) (h := ?_)
              refine W.q (v := .int .i64 (((bAt s i - 48) : Nat) : Int)) (hr := (r_conv (k := .u8) (k' := .i64) (n := (((bAt s i - 48) : Nat) : Int)) (m := (((bAt s i - 48) : Nat) : Int)) rfl (by kernel_rfl) (by kernel_rfl) (by kernel_rfl) (wrap_i64 (by omega) (by omega)))) (h := ?_)
              refine W.q (v := .int .i64 ((10 * n + (bAt s i - 48) : Nat) : Int)) (hr := (r_add (m := ((10 * n : Nat) : Int)) (n := (((bAt s i - 48) : Nat) : Int)) (z := ((10 * n + (bAt s i - 48) : Nat) : Int)) rfl (by kernel_rfl) (by kernel_rfl) (by omega) (by omega))) (h := ?_)
              refine W.as (v := .int .i64 ((10 * n + (bAt s i - 48) : Nat) : Int)) (h := ?_)
              refine W.endF 58 [(0, .string s), (2, .int .i64 0), (3, .bool false), (4, .string s), (5, .int .i64 ((10 * n + (bAt s i - 48) : Nat) : Int)), (6, .int .i64 ((i : Nat) : Int)), (15, .bool false), (21, .bool false), (25, .bool true), (37, .bool false)] (fun U63 => ?_)
              apply h33
              refine W.region_quiet [(0, false), (1, false), (2, false)] (by kernel_rfl) ?_
              refine W.mv (v := .int .i64 ((i : Nat) : Int)) (h := ?_)
              refine W.q (v := .int .i64 ((i + 1 : Nat) : Int)) (hr := (r_add (m := ((i : Nat) : Int)) (n := 1) (z := ((i + 1 : Nat) : Int)) rfl (by kernel_rfl) (by kernel_rfl) (by omega) (by omega))) (h := ?_)
              refine W.as (v := .int .i64 ((i + 1 : Nat) : Int)) (h := ?_)
              refine W.endF 58 [(0, .string s), (2, .int .i64 0), (3, .bool false), (4, .string s), (5, .int .i64 ((10 * n + (bAt s i - 48) : Nat) : Int)), (6, .int .i64 ((i + 1 : Nat) : Int)), (15, .bool false), (21, .bool false), (25, .bool true), (37, .bool false)] (fun U64 => ?_)
              have hd2 : Lib.decFrom 0 (s.data.toList.take (i + 1)) = some (10 * n + (bAt s i - 48)) := dec_step hdec (by omega) (by omega) (by omega)
              exact h30 _ _ _ (by omega : (s.size - (i + 1)) < _) ⟨i + 1, 10 * n + (bAt s i - 48), (fun iU9 => lk [(0, .string s), (2, .int .i64 0), (3, .bool false), (4, .string s), (5, .int .i64 ((10 * n + (bAt s i - 48) : Nat) : Int)), (6, .int .i64 ((i + 1 : Nat) : Int)), (15, .bool false), (21, .bool false), (25, .bool true), (37, .bool false)] iU9 (U64 iU9)), (by kernel_rfl), rfl, (by omega), hd2, (val_lt6 (by have h9 : s.data.toList.length = s.size := (by simp); rw [List.length_take]; rw [hst] at hbl; omega) hd2), c53⟩
        · refine W.q (v := .bool false) (hr := (r_lss (m := ((i : Nat) : Int)) (n := ((s.size : Nat) : Int)) rfl (by kernel_rfl) (by kernel_rfl) (df q54))) (h := ?_)
          refine W.endF 58 [(0, .string s), (2, .int .i64 0), (3, .bool false), (4, .string s), (5, .int .i64 ((n : Nat) : Int)), (6, .int .i64 ((i : Nat) : Int)), (15, .bool false), (21, .bool false), (25, .bool false)] (fun U65 => ?_)
          apply h32
          refine wp_cond_false (by kernel_rfl) ?_
          refine wp_exit ?_
          apply h28
          refine wp_seq_k (fun K38 h38 => ?_)
          refine wp_seq_k (fun K39 h39 => ?_)
          refine W.region_quiet [(0, false), (1, false), (2, false), (3, false), (4, false)] (by kernel_rfl) ?_
          refine W.mv (v := .string s) (h := ?_)
          refine W.q (v := .int .i64 ((s.size : Nat) : Int)) (hr := (r_lenS (s := s) rfl (by kernel_rfl) (by kernel_rfl))) (h := ?_)
          refine W.mv (v := .string s) (h := ?_)
          refine W.q (v := .int .i64 ((s.size : Nat) : Int)) (hr := (r_lenS (s := s) rfl (by kernel_rfl) (by kernel_rfl))) (h := ?_)
          refine W.q (v := .bool false) (hr := (r_lss (m := ((s.size : Nat) : Int)) (n := ((s.size : Nat) : Int)) rfl (by kernel_rfl) (by kernel_rfl) (df (by omega)))) (h := ?_)
          refine W.endF 58 [(0, .string s), (2, .int .i64 0), (3, .bool false), (4, .string s), (5, .int .i64 ((n : Nat) : Int)), (6, .int .i64 ((i : Nat) : Int)), (15, .bool false), (21, .bool false), (25, .bool false), (50, .bool false)] (fun U66 => ?_)
          apply h39
          refine wp_cond_false (by kernel_rfl) ?_
          apply wp_skip
          apply h38
          refine wp_seq_k (fun K40 h40 => ?_)
          refine wp_seq_k (fun K41 h41 => ?_)
          refine W.region_plain (row := none) [(0, false), (1, true), (2, false), (3, false)] (by kernel_rfl) ?_
          have s67 := SG.self wl0 none
          refine W.mv (v := .int .i64 ((n : Nat) : Int)) (h := ?_)
          refine W.sc (vs := [.int .i64 ((n : Nat) : Int)]) rfl rfl (by kernel_rfl) (by kernel_rfl) (by kernel_rfl) rfl (l1Num_any ((n : Nat) : Int) (by omega) (by omega) _) ?_
          rintro e w69 ⟨rfl, b68⟩
          have s70 := SG.of_below s67 b68
          refine ⟨_, rfl, s70, ?_⟩
          refine W.mv (v := .string s) (h := ?_)
          by_cases q71 : (itoaB ((n : Nat) : Int)) = s
          · refine W.q (v := .bool false) (hr := (r_neqS (s := (itoaB ((n : Nat) : Int))) (r := s) rfl (by kernel_rfl) (by kernel_rfl) (by rw [decide_eq_true q71]; rfl))) (h := ?_)
            refine W.endF 58 [(0, .string s), (2, .int .i64 0), (3, .bool false), (4, .string s), (5, .int .i64 ((n : Nat) : Int)), (6, .int .i64 ((i : Nat) : Int)), (15, .bool false), (21, .bool false), (25, .bool false), (50, .bool false), (56, .bool false)] (fun U72 => ?_)
            have c73 := (Sb c53 s70 nkk)
            apply h41
            refine wp_cond_false (by kernel_rfl) ?_
            apply wp_skip
            apply h40
            refine wp_seq_k (fun K42 h42 => ?_)
            refine W.region_quiet [(0, false), (1, false), (2, false)] (by kernel_rfl) ?_
            refine W.mv (v := .int .i64 ((n : Nat) : Int)) (h := ?_)
            refine W.as (v := .int .i64 ((n : Nat) : Int)) (h := ?_)
            refine W.as (v := .bool true) (h := ?_)
            refine W.endF 58 [(0, .string s), (2, .int .i64 ((n : Nat) : Int)), (3, .bool true), (4, .string s), (5, .int .i64 ((n : Nat) : Int)), (6, .int .i64 ((i : Nat) : Int)), (15, .bool false), (21, .bool false), (25, .bool false), (50, .bool false), (56, .bool false)] (fun U74 => ?_)
            apply h42
            refine wp_ret ?_
            try simp only [Exit.then]
            refine ret2 (v := .int .i64 ((n : Nat) : Int)) (x := .bool true) rfl (by kernel_rfl) (by kernel_rfl) ?_
            have hN : isNum s := ⟨_, ⟨by omega, by omega⟩, q71⟩
            obtain ⟨e1, e2⟩ := num_yes ⟨by omega, by omega⟩ q71
            exact ⟨by rw [e1, e2], c73⟩
          · refine W.q (v := .bool true) (hr := (r_neqS (s := (itoaB ((n : Nat) : Int))) (r := s) rfl (by kernel_rfl) (by kernel_rfl) (by rw [decide_eq_false q71]; rfl))) (h := ?_)
            refine W.endF 58 [(0, .string s), (2, .int .i64 0), (3, .bool false), (4, .string s), (5, .int .i64 ((n : Nat) : Int)), (6, .int .i64 ((i : Nat) : Int)), (15, .bool false), (21, .bool false), (25, .bool false), (50, .bool false), (56, .bool true)] (fun U75 => ?_)
            have c76 := (Sb c53 s70 nkk)
            apply h41
            refine wp_cond_true (by kernel_rfl) ?_
            refine wp_seq_k (fun K43 h43 => ?_)
            refine W.region_quiet [(0, false), (1, false)] (by kernel_rfl) ?_
            refine W.as (v := .int .i64 0) (h := ?_)
            refine W.as (v := .bool false) (h := ?_)
            refine W.endF 58 [(0, .string s), (2, .int .i64 0), (3, .bool false), (4, .string s), (5, .int .i64 ((n : Nat) : Int)), (6, .int .i64 ((i : Nat) : Int)), (15, .bool false), (21, .bool false), (25, .bool false), (50, .bool false), (56, .bool true)] (fun U77 => ?_)
            apply h43
            refine wp_ret ?_
            try simp only [Exit.then]
            refine ret2 (v := .int .i64 0) (x := .bool false) rfl (by kernel_rfl) (by kernel_rfl) ?_
            have hno : ¬ isNum s := fun h => by
              have h9 := num_value (n := n) h (by rw [hst]; rw [← take_all (t := s) (i := i) (by omega)]; exact hdec)
              rw [hst] at h9
              exact q71 (h9.2.2 (by omega)).symm
            obtain ⟨e1, e2⟩ := num_no hno
            exact ⟨by rw [e1, e2], c76⟩
      · rw [q48]
        refine W.q (v := .bool true) (hr := (r_not (b := false) rfl (by kernel_rfl) rfl)) (h := ?_)
        refine W.endF 58 [(0, .string s), (2, .int .i64 0), (3, .bool false), (4, .string s), (15, .bool false), (21, .bool true)] (fun U78 => ?_)
        have c79 := (Sb (Below.refl _ _) s45 nkk)
        apply h26
        refine wp_cond_true (by kernel_rfl) ?_
        refine wp_seq_k (fun K44 h44 => ?_)
        refine W.region_quiet [(0, false), (1, false)] (by kernel_rfl) ?_
        refine W.as (v := .int .i64 0) (h := ?_)
        refine W.as (v := .bool false) (h := ?_)
        refine W.endF 58 [(0, .string s), (2, .int .i64 0), (3, .bool false), (4, .string s), (15, .bool false), (21, .bool true)] (fun U80 => ?_)
        apply h44
        refine wp_ret ?_
        try simp only [Exit.then]
        refine ret2 (v := .int .i64 0) (x := .bool false) rfl (by kernel_rfl) (by kernel_rfl) ?_
        have hst : stripB s = s := strip_no (by omega)
        have hno : ¬ isNum s := fun h => by
          have h8 := num_strip_len h
          rw [hst] at h8
          have h7 := inB_no.1 q48
          omega
        obtain ⟨e1, e2⟩ := num_no hno
        exact ⟨by rw [e1, e2], c79⟩
  · refine W.q (v := .bool false) (hr := (r_gtr (m := ((s.size : Nat) : Int)) (n := 1) rfl (by kernel_rfl) (by kernel_rfl) (df q3))) (h := ?_)
    refine W.mv (v := .bool false) (h := ?_)
    refine W.sp rfl (h := ?_)
    refine W.sp rfl (h := ?_)
    refine W.sp rfl (h := ?_)
    refine W.q (v := .bool false) (hr := (r_pick (b := false) rfl (by kernel_rfl) (by kernel_rfl))) (h := ?_)
    refine W.endF 58 [(0, .string s), (2, .int .i64 0), (3, .bool false), (4, .string s), (15, .bool false)] (fun U81 => ?_)
    apply h4
    refine wp_cond_false (by kernel_rfl) ?_
    apply wp_skip
    apply h3
    refine wp_seq_k (fun K45 h45 => ?_)
    refine wp_seq_k (fun K46 h46 => ?_)
    refine W.region_plain (row := none) [(0, false), (1, false), (2, true), (3, false)] (by kernel_rfl) ?_
    have s82 := SG.self w none
    refine W.mv (v := .string s) (h := ?_)
    refine W.q (v := .int .i64 ((s.size : Nat) : Int)) (hr := (r_lenS (s := s) rfl (by kernel_rfl) (by kernel_rfl))) (h := ?_)
    refine W.sc (vs := [.int .i64 ((s.size : Nat) : Int), .int .i64 1, .int .i64 6]) rfl rfl (by kernel_rfl) (by kernel_rfl) (by kernel_rfl) rfl (l1In_any ((s.size : Nat) : Int) 1 6 _) ?_
    rintro e w' ⟨rfl, rfl⟩
    refine ⟨_, rfl, s82, ?_⟩
    rcases Bool.eq_false_or_eq_true (inB ((s.size : Nat) : Int) 1 6) with q85 | q85
    · rw [q85]
      refine W.q (v := .bool false) (hr := (r_not (b := true) rfl (by kernel_rfl) rfl)) (h := ?_)
      refine W.endF 58 [(0, .string s), (2, .int .i64 0), (3, .bool false), (4, .string s), (15, .bool false), (21, .bool false)] (fun U86 => ?_)
      have c87 := (Sb (Below.refl _ _) s82 nkk)
      apply h46
      refine wp_cond_false (by kernel_rfl) ?_
      apply wp_skip
      apply h45
      refine wp_seq_k (fun K47 h47 => ?_)
      refine W.region_quiet [(0, false)] (by kernel_rfl) ?_
      refine W.as (v := .int .i64 0) (h := ?_)
      refine W.endF 58 [(0, .string s), (2, .int .i64 0), (3, .bool false), (4, .string s), (5, .int .i64 0), (15, .bool false), (21, .bool false)] (fun U88 => ?_)
      apply h47
      refine wp_seq_k (fun K48 h48 => ?_)
      refine wp_seq_k (fun K49 h49 => ?_)
      refine W.region_quiet [(0, false)] (by kernel_rfl) ?_
      refine W.as (v := .int .i64 0) (h := ?_)
      refine W.endF 58 [(0, .string s), (2, .int .i64 0), (3, .bool false), (4, .string s), (5, .int .i64 0), (6, .int .i64 0), (15, .bool false), (21, .bool false)] (fun U89 => ?_)
      apply h49
      refine wp_block ?_
      have hst : stripB s = s := strip_no (by omega)
      have hbn := inB_yes.1 q85
      have hbl : (stripB s).size ≤ 6 := by rw [hst]; omega
      refine loopK (fun am0 aa0 wl0 => ∃ (i : Nat) (n : Nat) (U0 : Nat → Value), aa0 = ⟨(fr U0 [(0, .string s), (2, .int .i64 0), (3, .bool false), (4, .string s), (5, .int .i64 ((n : Nat) : Int)), (6, .int .i64 ((i : Nat) : Int)), (15, .bool false), (21, .bool false)] 58 0).toArray, []⟩ ∧ (am0 = s.size - i) ∧ (i ≤ s.size) ∧ (Lib.decFrom 0 (s.data.toList.take i) = some n) ∧ (n < 1000000) ∧ (Below w.heap.size w wl0)) (s.size - 0) ?_ ?_
      · exact ⟨0, 0, (fun iU9 => lk [(0, .string s), (2, .int .i64 0), (3, .bool false), (4, .string s), (5, .int .i64 0), (6, .int .i64 0), (15, .bool false), (21, .bool false)] iU9 (U89 iU9)), (by kernel_rfl), rfl, (Nat.zero_le _), rfl, (by omega), c87⟩
      rintro am0 aa0 wl0 K50 h50 ⟨i, n, U0, rfl, rfl, hi, hdec, hn6, c90⟩
      refine wp_seq_k (fun K51 h51 => ?_)
      refine wp_seq_k (fun K52 h52 => ?_)
      refine W.region_quiet [(0, false), (1, false), (2, false), (3, false)] (by kernel_rfl) ?_
      refine W.mv (v := .int .i64 ((i : Nat) : Int)) (h := ?_)
      refine W.mv (v := .string s) (h := ?_)
      refine W.q (v := .int .i64 ((s.size : Nat) : Int)) (hr := (r_lenS (s := s) rfl (by kernel_rfl) (by kernel_rfl))) (h := ?_)
      by_cases q91 : (((i : Nat) : Int) : Int) < (((s.size : Nat) : Int) : Int)
      · refine W.q (v := .bool true) (hr := (r_lss (m := ((i : Nat) : Int)) (n := ((s.size : Nat) : Int)) rfl (by kernel_rfl) (by kernel_rfl) (dt q91))) (h := ?_)
        refine W.endF 58 [(0, .string s), (2, .int .i64 0), (3, .bool false), (4, .string s), (5, .int .i64 ((n : Nat) : Int)), (6, .int .i64 ((i : Nat) : Int)), (15, .bool false), (21, .bool false), (25, .bool true)] (fun U92 => ?_)
        apply h52
        refine wp_cond_true (by kernel_rfl) ?_
        apply wp_skip
        apply h51
        refine wp_seq_k (fun K53 h53 => ?_)
        refine wp_block ?_
        refine wp_seq_k (fun K54 h54 => ?_)
        refine wp_seq_k (fun K55 h55 => ?_)
        refine W.region_quiet [(0, false), (1, false), (2, false), (3, false), (4, false), (5, false), (6, false), (7, false), (8, false), (9, false)] (by kernel_rfl) ?_
        refine W.mv (v := .string s) (h := ?_)
        refine W.mv (v := .int .i64 ((i : Nat) : Int)) (h := ?_)
        refine W.q (v := .int .u8 ((bAt s i : Nat) : Int)) (hr := (r_indexS (s := s) (k := i) rfl (by kernel_rfl) (by kernel_rfl) (by kernel_rfl) (by omega))) (h := ?_)
        by_cases q93 : (((bAt s i : Nat) : Int) : Int) < (48 : Int)
        · refine W.q (v := .bool true) (hr := (r_lssK (k := .u8) (m := ((bAt s i : Nat) : Int)) (n := 48) rfl (by kernel_rfl) (by kernel_rfl) (dt q93))) (h := ?_)
          refine W.mv (v := .bool true) (h := ?_)
          refine W.sp rfl (h := ?_)
          refine W.sp rfl (h := ?_)
          refine W.sp rfl (h := ?_)
          refine W.sp rfl (h := ?_)
          refine W.q (v := .bool true) (hr := (r_pick (b := true) rfl (by kernel_rfl) (by kernel_rfl))) (h := ?_)
          refine W.endF 58 [(0, .string s), (2, .int .i64 0), (3, .bool false), (4, .string s), (5, .int .i64 ((n : Nat) : Int)), (6, .int .i64 ((i : Nat) : Int)), (15, .bool false), (21, .bool false), (25, .bool true), (37, .bool true)] (fun U94 => ?_)
          apply h55
          refine wp_cond_true (by kernel_rfl) ?_
          refine wp_seq_k (fun K56 h56 => ?_)
          refine W.region_quiet [(0, false), (1, false)] (by kernel_rfl) ?_
          refine W.as (v := .int .i64 0) (h := ?_)
          refine W.as (v := .bool false) (h := ?_)
          refine W.endF 58 [(0, .string s), (2, .int .i64 0), (3, .bool false), (4, .string s), (5, .int .i64 ((n : Nat) : Int)), (6, .int .i64 ((i : Nat) : Int)), (15, .bool false), (21, .bool false), (25, .bool true), (37, .bool true)] (fun U95 => ?_)
          apply h56
          refine wp_ret ?_
          try simp only [Exit.then, Exit.inBlock]
          refine ret2 (v := .int .i64 0) (x := .bool false) rfl (by kernel_rfl) (by kernel_rfl) ?_
          have hno : ¬ isNum s := fun h => by
            have h8 := num_digit (i := i) h (by rw [hst]; omega)
            rw [hst] at h8; omega
          obtain ⟨e1, e2⟩ := num_no hno
          exact ⟨by rw [e1, e2], c90⟩
        · refine W.q (v := .bool false) (hr := (r_lssK (k := .u8) (m := ((bAt s i : Nat) : Int)) (n := 48) rfl (by kernel_rfl) (by kernel_rfl) (df q93))) (h := ?_)
          refine W.mv (v := .bool false) (h := ?_)
          refine W.mv (v := .string s) (h := ?_)
          refine W.mv (v := .int .i64 ((i : Nat) : Int)) (h := ?_)
          refine W.q (v := .int .u8 ((bAt s i : Nat) : Int)) (hr := (r_indexS (s := s) (k := i) rfl (by kernel_rfl) (by kernel_rfl) (by kernel_rfl) (by omega))) (h := ?_)
          by_cases q96 : (((bAt s i : Nat) : Int) : Int) > (57 : Int)
          · refine W.q (v := .bool true) (hr := (r_gtrK (k := .u8) (m := ((bAt s i : Nat) : Int)) (n := 57) rfl (by kernel_rfl) (by kernel_rfl) (dt q96))) (h := ?_)
            refine W.q (v := .bool true) (hr := (r_pick (b := false) rfl (by kernel_rfl) (by kernel_rfl))) (h := ?_)
            refine W.endF 58 [(0, .string s), (2, .int .i64 0), (3, .bool false), (4, .string s), (5, .int .i64 ((n : Nat) : Int)), (6, .int .i64 ((i : Nat) : Int)), (15, .bool false), (21, .bool false), (25, .bool true), (37, .bool true)] (fun U97 => ?_)
            apply h55
            refine wp_cond_true (by kernel_rfl) ?_
            refine wp_seq_k (fun K57 h57 => ?_)
            refine W.region_quiet [(0, false), (1, false)] (by kernel_rfl) ?_
            refine W.as (v := .int .i64 0) (h := ?_)
            refine W.as (v := .bool false) (h := ?_)
            refine W.endF 58 [(0, .string s), (2, .int .i64 0), (3, .bool false), (4, .string s), (5, .int .i64 ((n : Nat) : Int)), (6, .int .i64 ((i : Nat) : Int)), (15, .bool false), (21, .bool false), (25, .bool true), (37, .bool true)] (fun U98 => ?_)
            apply h57
            refine wp_ret ?_
            try simp only [Exit.then, Exit.inBlock]
            refine ret2 (v := .int .i64 0) (x := .bool false) rfl (by kernel_rfl) (by kernel_rfl) ?_
            have hno : ¬ isNum s := fun h => by
              have h8 := num_digit (i := i) h (by rw [hst]; omega)
              rw [hst] at h8; omega
            obtain ⟨e1, e2⟩ := num_no hno
            exact ⟨by rw [e1, e2], c90⟩
          · refine W.q (v := .bool false) (hr := (r_gtrK (k := .u8) (m := ((bAt s i : Nat) : Int)) (n := 57) rfl (by kernel_rfl) (by kernel_rfl) (df q96))) (h := ?_)
            refine W.q (v := .bool false) (hr := (r_pick (b := false) rfl (by kernel_rfl) (by kernel_rfl))) (h := ?_)
            refine W.endF 58 [(0, .string s), (2, .int .i64 0), (3, .bool false), (4, .string s), (5, .int .i64 ((n : Nat) : Int)), (6, .int .i64 ((i : Nat) : Int)), (15, .bool false), (21, .bool false), (25, .bool true), (37, .bool false)] (fun U99 => ?_)
            apply h55
            refine wp_cond_false (by kernel_rfl) ?_
            apply wp_skip
            apply h54
            refine W.region_quiet [(0, false), (1, false), (2, false), (3, false), (4, false), (5, false), (6, false), (7, false), (8, false)] (by kernel_rfl) ?_
            refine W.mv (v := .int .i64 ((n : Nat) : Int)) (h := ?_)
            refine W.q (v := .int .i64 ((10 * n : Nat) : Int)) (hr := (r_mulK (k := .i64) (m := 10) (n := ((n : Nat) : Int)) (z := ((10 * n : Nat) : Int)) rfl (by kernel_rfl) (by kernel_rfl) (by rw [show (10 : Int) * ((n : Nat) : Int) = ((10 * n : Nat) : Int) by omega]; exact wrap_i64 (by omega) (by omega)))) (h := ?_)
            refine W.mv (v := .string s) (h := ?_)
            refine W.mv (v := .int .i64 ((i : Nat) : Int)) (h := ?_)
            refine W.q (v := .int .u8 ((bAt s i : Nat) : Int)) (hr := (r_indexS (s := s) (k := i) rfl (by kernel_rfl) (by kernel_rfl) (by kernel_rfl) (by omega))) (h := ?_)
            refine W.q (v := .int .u8 (((bAt s i - 48) : Nat) : Int)) (hr := (r_subK (k := .u8) (m := ((bAt s i : Nat) : Int)) (n := 48) (z := (((bAt s i - 48) : Nat) : Int)) rfl (by kernel_rfl) (by kernel_rfl) (by rw [show (((bAt s i : Nat) : Int) - 48) = (((bAt s i - 48 : Nat)) : Int) by omega]; exact IntWalk.u8_in _ (by have := bAt_lt s i; omega)))) (h := ?_)
            refine W.q (v := .int .i64 (((bAt s i - 48) : Nat) : Int)) (hr := (r_conv (k := .u8) (k' := .i64) (n := (((bAt s i - 48) : Nat) : Int)) (m := (((bAt s i - 48) : Nat) : Int)) rfl (by kernel_rfl) (by kernel_rfl) (by kernel_rfl) (wrap_i64 (by omega) (by omega)))) (h := ?_)
            refine W.q (v := .int .i64 ((10 * n + (bAt s i - 48) : Nat) : Int)) (hr := (r_add (m := ((10 * n : Nat) : Int)) (n := (((bAt s i - 48) : Nat) : Int)) (z := ((10 * n + (bAt s i - 48) : Nat) : Int)) rfl (by kernel_rfl) (by kernel_rfl) (by omega) (by omega))) (h := ?_)
            refine W.as (v := .int .i64 ((10 * n + (bAt s i - 48) : Nat) : Int)) (h := ?_)
            refine W.endF 58 [(0, .string s), (2, .int .i64 0), (3, .bool false), (4, .string s), (5, .int .i64 ((10 * n + (bAt s i - 48) : Nat) : Int)), (6, .int .i64 ((i : Nat) : Int)), (15, .bool false), (21, .bool false), (25, .bool true), (37, .bool false)] (fun U100 => ?_)
            apply h53
            refine W.region_quiet [(0, false), (1, false), (2, false)] (by kernel_rfl) ?_
            refine W.mv (v := .int .i64 ((i : Nat) : Int)) (h := ?_)
            refine W.q (v := .int .i64 ((i + 1 : Nat) : Int)) (hr := (r_add (m := ((i : Nat) : Int)) (n := 1) (z := ((i + 1 : Nat) : Int)) rfl (by kernel_rfl) (by kernel_rfl) (by omega) (by omega))) (h := ?_)
            refine W.as (v := .int .i64 ((i + 1 : Nat) : Int)) (h := ?_)
            refine W.endF 58 [(0, .string s), (2, .int .i64 0), (3, .bool false), (4, .string s), (5, .int .i64 ((10 * n + (bAt s i - 48) : Nat) : Int)), (6, .int .i64 ((i + 1 : Nat) : Int)), (15, .bool false), (21, .bool false), (25, .bool true), (37, .bool false)] (fun U101 => ?_)
            have hd2 : Lib.decFrom 0 (s.data.toList.take (i + 1)) = some (10 * n + (bAt s i - 48)) := dec_step hdec (by omega) (by omega) (by omega)
            exact h50 _ _ _ (by omega : (s.size - (i + 1)) < _) ⟨i + 1, 10 * n + (bAt s i - 48), (fun iU9 => lk [(0, .string s), (2, .int .i64 0), (3, .bool false), (4, .string s), (5, .int .i64 ((10 * n + (bAt s i - 48) : Nat) : Int)), (6, .int .i64 ((i + 1 : Nat) : Int)), (15, .bool false), (21, .bool false), (25, .bool true), (37, .bool false)] iU9 (U101 iU9)), (by kernel_rfl), rfl, (by omega), hd2, (val_lt6 (by have h9 : s.data.toList.length = s.size := (by simp); rw [List.length_take]; rw [hst] at hbl; omega) hd2), c90⟩
      · refine W.q (v := .bool false) (hr := (r_lss (m := ((i : Nat) : Int)) (n := ((s.size : Nat) : Int)) rfl (by kernel_rfl) (by kernel_rfl) (df q91))) (h := ?_)
        refine W.endF 58 [(0, .string s), (2, .int .i64 0), (3, .bool false), (4, .string s), (5, .int .i64 ((n : Nat) : Int)), (6, .int .i64 ((i : Nat) : Int)), (15, .bool false), (21, .bool false), (25, .bool false)] (fun U102 => ?_)
        apply h52
        refine wp_cond_false (by kernel_rfl) ?_
        refine wp_exit ?_
        apply h48
        refine wp_seq_k (fun K58 h58 => ?_)
        refine wp_seq_k (fun K59 h59 => ?_)
        refine W.region_quiet [(0, false), (1, false), (2, false), (3, false), (4, false)] (by kernel_rfl) ?_
        refine W.mv (v := .string s) (h := ?_)
        refine W.q (v := .int .i64 ((s.size : Nat) : Int)) (hr := (r_lenS (s := s) rfl (by kernel_rfl) (by kernel_rfl))) (h := ?_)
        refine W.mv (v := .string s) (h := ?_)
        refine W.q (v := .int .i64 ((s.size : Nat) : Int)) (hr := (r_lenS (s := s) rfl (by kernel_rfl) (by kernel_rfl))) (h := ?_)
        refine W.q (v := .bool false) (hr := (r_lss (m := ((s.size : Nat) : Int)) (n := ((s.size : Nat) : Int)) rfl (by kernel_rfl) (by kernel_rfl) (df (by omega)))) (h := ?_)
        refine W.endF 58 [(0, .string s), (2, .int .i64 0), (3, .bool false), (4, .string s), (5, .int .i64 ((n : Nat) : Int)), (6, .int .i64 ((i : Nat) : Int)), (15, .bool false), (21, .bool false), (25, .bool false), (50, .bool false)] (fun U103 => ?_)
        apply h59
        refine wp_cond_false (by kernel_rfl) ?_
        apply wp_skip
        apply h58
        refine wp_seq_k (fun K60 h60 => ?_)
        refine wp_seq_k (fun K61 h61 => ?_)
        refine W.region_plain (row := none) [(0, false), (1, true), (2, false), (3, false)] (by kernel_rfl) ?_
        have s104 := SG.self wl0 none
        refine W.mv (v := .int .i64 ((n : Nat) : Int)) (h := ?_)
        refine W.sc (vs := [.int .i64 ((n : Nat) : Int)]) rfl rfl (by kernel_rfl) (by kernel_rfl) (by kernel_rfl) rfl (l1Num_any ((n : Nat) : Int) (by omega) (by omega) _) ?_
        rintro e w106 ⟨rfl, b105⟩
        have s107 := SG.of_below s104 b105
        refine ⟨_, rfl, s107, ?_⟩
        refine W.mv (v := .string s) (h := ?_)
        by_cases q108 : (itoaB ((n : Nat) : Int)) = s
        · refine W.q (v := .bool false) (hr := (r_neqS (s := (itoaB ((n : Nat) : Int))) (r := s) rfl (by kernel_rfl) (by kernel_rfl) (by rw [decide_eq_true q108]; rfl))) (h := ?_)
          refine W.endF 58 [(0, .string s), (2, .int .i64 0), (3, .bool false), (4, .string s), (5, .int .i64 ((n : Nat) : Int)), (6, .int .i64 ((i : Nat) : Int)), (15, .bool false), (21, .bool false), (25, .bool false), (50, .bool false), (56, .bool false)] (fun U109 => ?_)
          have c110 := (Sb c90 s107 nkk)
          apply h61
          refine wp_cond_false (by kernel_rfl) ?_
          apply wp_skip
          apply h60
          refine wp_seq_k (fun K62 h62 => ?_)
          refine W.region_quiet [(0, false), (1, false), (2, false)] (by kernel_rfl) ?_
          refine W.mv (v := .int .i64 ((n : Nat) : Int)) (h := ?_)
          refine W.as (v := .int .i64 ((n : Nat) : Int)) (h := ?_)
          refine W.as (v := .bool true) (h := ?_)
          refine W.endF 58 [(0, .string s), (2, .int .i64 ((n : Nat) : Int)), (3, .bool true), (4, .string s), (5, .int .i64 ((n : Nat) : Int)), (6, .int .i64 ((i : Nat) : Int)), (15, .bool false), (21, .bool false), (25, .bool false), (50, .bool false), (56, .bool false)] (fun U111 => ?_)
          apply h62
          refine wp_ret ?_
          try simp only [Exit.then]
          refine ret2 (v := .int .i64 ((n : Nat) : Int)) (x := .bool true) rfl (by kernel_rfl) (by kernel_rfl) ?_
          have hN : isNum s := ⟨_, ⟨by omega, by omega⟩, q108⟩
          obtain ⟨e1, e2⟩ := num_yes ⟨by omega, by omega⟩ q108
          exact ⟨by rw [e1, e2], c110⟩
        · refine W.q (v := .bool true) (hr := (r_neqS (s := (itoaB ((n : Nat) : Int))) (r := s) rfl (by kernel_rfl) (by kernel_rfl) (by rw [decide_eq_false q108]; rfl))) (h := ?_)
          refine W.endF 58 [(0, .string s), (2, .int .i64 0), (3, .bool false), (4, .string s), (5, .int .i64 ((n : Nat) : Int)), (6, .int .i64 ((i : Nat) : Int)), (15, .bool false), (21, .bool false), (25, .bool false), (50, .bool false), (56, .bool true)] (fun U112 => ?_)
          have c113 := (Sb c90 s107 nkk)
          apply h61
          refine wp_cond_true (by kernel_rfl) ?_
          refine wp_seq_k (fun K63 h63 => ?_)
          refine W.region_quiet [(0, false), (1, false)] (by kernel_rfl) ?_
          refine W.as (v := .int .i64 0) (h := ?_)
          refine W.as (v := .bool false) (h := ?_)
          refine W.endF 58 [(0, .string s), (2, .int .i64 0), (3, .bool false), (4, .string s), (5, .int .i64 ((n : Nat) : Int)), (6, .int .i64 ((i : Nat) : Int)), (15, .bool false), (21, .bool false), (25, .bool false), (50, .bool false), (56, .bool true)] (fun U114 => ?_)
          apply h63
          refine wp_ret ?_
          try simp only [Exit.then]
          refine ret2 (v := .int .i64 0) (x := .bool false) rfl (by kernel_rfl) (by kernel_rfl) ?_
          have hno : ¬ isNum s := fun h => by
            have h9 := num_value (n := n) h (by rw [hst]; rw [← take_all (t := s) (i := i) (by omega)]; exact hdec)
            rw [hst] at h9
            exact q108 (h9.2.2 (by omega)).symm
          obtain ⟨e1, e2⟩ := num_no hno
          exact ⟨by rw [e1, e2], c113⟩
    · rw [q85]
      refine W.q (v := .bool true) (hr := (r_not (b := false) rfl (by kernel_rfl) rfl)) (h := ?_)
      refine W.endF 58 [(0, .string s), (2, .int .i64 0), (3, .bool false), (4, .string s), (15, .bool false), (21, .bool true)] (fun U115 => ?_)
      have c116 := (Sb (Below.refl _ _) s82 nkk)
      apply h46
      refine wp_cond_true (by kernel_rfl) ?_
      refine wp_seq_k (fun K64 h64 => ?_)
      refine W.region_quiet [(0, false), (1, false)] (by kernel_rfl) ?_
      refine W.as (v := .int .i64 0) (h := ?_)
      refine W.as (v := .bool false) (h := ?_)
      refine W.endF 58 [(0, .string s), (2, .int .i64 0), (3, .bool false), (4, .string s), (15, .bool false), (21, .bool true)] (fun U117 => ?_)
      apply h64
      refine wp_ret ?_
      try simp only [Exit.then]
      refine ret2 (v := .int .i64 0) (x := .bool false) rfl (by kernel_rfl) (by kernel_rfl) ?_
      have hst : stripB s = s := strip_no (by omega)
      have hno : ¬ isNum s := fun h => by
        have h8 := num_strip_len h
        rw [hst] at h8
        have h7 := inB_no.1 q85
        omega
      obtain ⟨e1, e2⟩ := num_no hno
      exact ⟨by rw [e1, e2], c116⟩
end Go.Proofs.YtdlcldaogcbnlaaDoor
namespace Go.Proofs
open Go.Shelf
def Tryd.laysM171_ren : Go.Shelf.Ren := ⟨fun | 171 => 66 | 243 => 89 | 246 => 98 | 283 => 109 | 284 => 110 | 285 => 111 | 286 => 112 | 129 => 122 | 317 => 121 | 318 => 123 | 319 => 124 | 320 => 125 | 337 => 130 | 338 => 131 | n => n, fun | 3 => 3 | 9 => 9 | 2 => 2 | 4 => 4 | 171 => 115 | 0 => 0 | 53 => 64 | 37 => 30 | 5 => 5 | 173 => 118 | 212 => 126 | 51 => 127 | 20 => 20 | 213 => 128 | 46 => 103 | 232 => 142 | 233 => 143 | n => n, fun | 17 => 3 | 18 => 6 | 19 => 7 | n => n⟩
theorem Tryd.laysM171 : Go.Proofs.LaysM.n171 Tryd.prog Tryd.laysM171_ren := {
  mixed := by kernel_rfl
  f129 := Tryd.func122.trans (congrArg some (by kernel_rfl))
  f171 := Tryd.func66.trans (congrArg some (by kernel_rfl))
  f243 := Tryd.func89.trans (congrArg some (by kernel_rfl))
  f246 := Tryd.func98.trans (congrArg some (by kernel_rfl))
  f283 := Tryd.func109.trans (congrArg some (by kernel_rfl))
  f284 := Tryd.func110.trans (congrArg some (by kernel_rfl))
  f285 := Tryd.func111.trans (congrArg some (by kernel_rfl))
  f286 := Tryd.func112.trans (congrArg some (by kernel_rfl))
  f317 := Tryd.func121.trans (congrArg some (by kernel_rfl))
  f318 := Tryd.func123.trans (congrArg some (by kernel_rfl))
  f319 := Tryd.func124.trans (congrArg some (by kernel_rfl))
  f320 := Tryd.func125.trans (congrArg some (by kernel_rfl))
  f337 := Tryd.func130.trans (congrArg some (by kernel_rfl))
  f338 := Tryd.func131.trans (congrArg some (by kernel_rfl))
  t0 := Tryd.underlying0
  a0 := Tryd.isAgg0
  z0 := Tryd.sizeOf0
  v0 := Tryd.zeroValue0
  t2 := Tryd.underlying2
  a2 := Tryd.isAgg2
  z2 := Tryd.sizeOf2
  v2 := Tryd.zeroValue2
  t3 := Tryd.underlying3
  a3 := Tryd.isAgg3
  z3 := Tryd.sizeOf3
  v3 := Tryd.zeroValue3
  t4 := Tryd.underlying4
  a4 := Tryd.isAgg4
  z4 := Tryd.sizeOf4
  v4 := Tryd.zeroValue4
  t5 := Tryd.underlying5
  a5 := Tryd.isAgg5
  z5 := Tryd.sizeOf5
  v5 := Tryd.zeroValue5
  t9 := Tryd.underlying9
  a9 := Tryd.isAgg9
  z9 := Tryd.sizeOf9
  v9 := Tryd.zeroValue9
  t20 := Tryd.underlying20
  a20 := Tryd.isAgg20
  z20 := Tryd.sizeOf20
  v20 := Tryd.zeroValue20
  t37 := Tryd.underlying30
  a37 := Tryd.isAgg30
  z37 := Tryd.sizeOf30
  v37 := Tryd.zeroValue30
  t46 := Tryd.underlying103
  a46 := Tryd.isAgg103
  z46 := Tryd.sizeOf103
  v46 := Tryd.zeroValue103
  t51 := Tryd.underlying127
  a51 := Tryd.isAgg127
  z51 := Tryd.sizeOf127
  v51 := Tryd.zeroValue127
  t53 := Tryd.underlying64
  a53 := Tryd.isAgg64
  z53 := Tryd.sizeOf64
  v53 := Tryd.zeroValue64
  t171 := Tryd.underlying115
  a171 := Tryd.isAgg115
  z171 := Tryd.sizeOf115
  v171 := Tryd.zeroValue115
  t173 := Tryd.underlying118
  a173 := Tryd.isAgg118
  z173 := Tryd.sizeOf118
  v173 := Tryd.zeroValue118
  t212 := Tryd.underlying126
  a212 := Tryd.isAgg126
  z212 := Tryd.sizeOf126
  v212 := Tryd.zeroValue126
  t213 := Tryd.underlying128
  a213 := Tryd.isAgg128
  z213 := Tryd.sizeOf128
  t232 := Tryd.underlying142
  a232 := Tryd.isAgg142
  z232 := Tryd.sizeOf142
  v232 := Tryd.zeroValue142
  t233 := Tryd.underlying143
  a233 := Tryd.isAgg143
  z233 := Tryd.sizeOf143
  v233 := Tryd.zeroValue143
  g17 := by kernel_rfl
  g18 := by kernel_rfl
  g19 := by kernel_rfl
  i0 := by kernel_rfl
  i2 := by kernel_rfl
  i3 := by kernel_rfl
  i4 := by kernel_rfl
  i5 := by kernel_rfl
  i9 := by kernel_rfl
  i20 := by kernel_rfl
  i37 := by kernel_rfl
  i46 := by kernel_rfl
  i51 := by kernel_rfl
  i53 := by kernel_rfl
  i171 := by kernel_rfl
  i173 := by kernel_rfl
  i212 := by kernel_rfl
  i232 := by kernel_rfl
  i233 := by kernel_rfl
  m17 := by kernel_rfl
  m18 := by kernel_rfl
  m19 := by kernel_rfl }
open Go.RowKit Go.Sort Go.Lib in
theorem Tryd.strconv_Itoa (n : Int) (h0 : -9223372036854775808 ≤ n) (h1 : n ≤ 9223372036854775807) (w : World) (htab : Lib.TabIs Tryd.prog w "internal/strconv.uint64pow10" .u64 Lib.pow10Tab) :
    Calls Tryd.prog 66 #[.int .i64 n] w fun e w' => e = .returned (.string ⟨(Lib.itoa n).toArray⟩) ∧ ∃ k os, w' = grow (w.drewN k) os := Any.strconv_Itoa Tryd.laysM171 n h0 h1 w htab
def Tryd.laysM145_ren : Go.Shelf.Ren := ⟨fun | 145 => 77 | 220 => 94 | 219 => 104 | 217 => 116 | 225 => 117 | 224 => 118 | 267 => 119 | 266 => 128 | 314 => 129 | n => n, fun | 9 => 9 | 4 => 4 | 59 => 87 | 3 => 3 | 5 => 5 | 46 => 103 | 146 => 135 | 51 => 127 | n => n, fun | 1 => 2 | n => n⟩
theorem Tryd.laysM145 : Go.Proofs.LaysM.n145 Tryd.prog Tryd.laysM145_ren := {
  mixed := by kernel_rfl
  f145 := Tryd.func77.trans (congrArg some (by kernel_rfl))
  f217 := Tryd.func116.trans (congrArg some (by kernel_rfl))
  f219 := Tryd.func104.trans (congrArg some (by kernel_rfl))
  f220 := Tryd.func94.trans (congrArg some (by kernel_rfl))
  f224 := Tryd.func118.trans (congrArg some (by kernel_rfl))
  f225 := Tryd.func117.trans (congrArg some (by kernel_rfl))
  f266 := Tryd.func128.trans (congrArg some (by kernel_rfl))
  f267 := Tryd.func119.trans (congrArg some (by kernel_rfl))
  f314 := Tryd.func129.trans (congrArg some (by kernel_rfl))
  t3 := Tryd.underlying3
  a3 := Tryd.isAgg3
  z3 := Tryd.sizeOf3
  v3 := Tryd.zeroValue3
  t4 := Tryd.underlying4
  a4 := Tryd.isAgg4
  z4 := Tryd.sizeOf4
  v4 := Tryd.zeroValue4
  t5 := Tryd.underlying5
  a5 := Tryd.isAgg5
  z5 := Tryd.sizeOf5
  v5 := Tryd.zeroValue5
  t9 := Tryd.underlying9
  a9 := Tryd.isAgg9
  z9 := Tryd.sizeOf9
  v9 := Tryd.zeroValue9
  t46 := Tryd.underlying103
  a46 := Tryd.isAgg103
  z46 := Tryd.sizeOf103
  v46 := Tryd.zeroValue103
  t51 := Tryd.underlying127
  a51 := Tryd.isAgg127
  z51 := Tryd.sizeOf127
  v51 := Tryd.zeroValue127
  t59 := Tryd.underlying87
  a59 := Tryd.isAgg87
  z59 := Tryd.sizeOf87
  v59 := Tryd.zeroValue87
  t146 := Tryd.underlying135
  a146 := Tryd.isAgg135
  z146 := Tryd.sizeOf135
  v146 := Tryd.zeroValue135
  g1 := by kernel_rfl
  i3 := by kernel_rfl
  i4 := by kernel_rfl
  i5 := by kernel_rfl
  i9 := by kernel_rfl
  i46 := by kernel_rfl
  i51 := by kernel_rfl
  i59 := by kernel_rfl
  i146 := by kernel_rfl
  m1 := by kernel_rfl
  s1_3 := fun w h => Go.Proofs.cell_of_shapedOpen_int (zero := #[.int .i64 0]) (t := 3) h (of_decide_eq_true (by kernel_rfl)) (by kernel_rfl) rfl (by kernel_rfl) (by kernel_rfl) Tryd.underlying3 }
def Tryd.lays146_ren : Go.Shelf.Ren := ⟨fun | 146 => 38 | 221 => 80 | 268 => 95 | 138 => 96 | 143 => 92 | 195 => 105 | 197 => 106 | 218 => 107 | 219 => 104 | 260 => 120 | 217 => 116 | 225 => 117 | 224 => 118 | 267 => 119 | 266 => 128 | 314 => 129 | n => n, fun | 9 => 9 | 31 => 55 | 3 => 3 | 4 => 4 | 0 => 0 | 105 => 111 | 21 => 21 | 5 => 5 | 46 => 103 | 119 => 137 | 139 => 140 | 138 => 139 | 146 => 135 | 51 => 127 | n => n, fun | 1 => 2 | 3 => 4 | 4 => 5 | n => n⟩
theorem Tryd.lays146 : Go.Proofs.Lays.n146 Tryd.prog Tryd.lays146_ren := {
  mixed := by kernel_rfl
  f138 := Tryd.func96.trans (congrArg some (by kernel_rfl))
  f143 := Tryd.func92.trans (congrArg some (by kernel_rfl))
  f146 := Tryd.func38.trans (congrArg some (by kernel_rfl))
  f195 := Tryd.func105.trans (congrArg some (by kernel_rfl))
  f197 := Tryd.func106.trans (congrArg some (by kernel_rfl))
  f217 := Tryd.func116.trans (congrArg some (by kernel_rfl))
  f218 := Tryd.func107.trans (congrArg some (by kernel_rfl))
  f219 := Tryd.func104.trans (congrArg some (by kernel_rfl))
  f221 := Tryd.func80.trans (congrArg some (by kernel_rfl))
  f224 := Tryd.func118.trans (congrArg some (by kernel_rfl))
  f225 := Tryd.func117.trans (congrArg some (by kernel_rfl))
  f260 := Tryd.func120.trans (congrArg some (by kernel_rfl))
  f266 := Tryd.func128.trans (congrArg some (by kernel_rfl))
  f267 := Tryd.func119.trans (congrArg some (by kernel_rfl))
  f268 := Tryd.func95.trans (congrArg some (by kernel_rfl))
  f314 := Tryd.func129.trans (congrArg some (by kernel_rfl))
  t0 := Tryd.underlying0
  a0 := Tryd.isAgg0
  z0 := Tryd.sizeOf0
  v0 := Tryd.zeroValue0
  t3 := Tryd.underlying3
  a3 := Tryd.isAgg3
  z3 := Tryd.sizeOf3
  v3 := Tryd.zeroValue3
  t4 := Tryd.underlying4
  a4 := Tryd.isAgg4
  z4 := Tryd.sizeOf4
  v4 := Tryd.zeroValue4
  t5 := Tryd.underlying5
  a5 := Tryd.isAgg5
  z5 := Tryd.sizeOf5
  v5 := Tryd.zeroValue5
  t9 := Tryd.underlying9
  a9 := Tryd.isAgg9
  z9 := Tryd.sizeOf9
  v9 := Tryd.zeroValue9
  t21 := Tryd.underlying21
  a21 := Tryd.isAgg21
  z21 := Tryd.sizeOf21
  v21 := Tryd.zeroValue21
  t31 := Tryd.underlying55
  a31 := Tryd.isAgg55
  z31 := Tryd.sizeOf55
  v31 := Tryd.zeroValue55
  t46 := Tryd.underlying103
  a46 := Tryd.isAgg103
  z46 := Tryd.sizeOf103
  v46 := Tryd.zeroValue103
  t51 := Tryd.underlying127
  a51 := Tryd.isAgg127
  z51 := Tryd.sizeOf127
  v51 := Tryd.zeroValue127
  t105 := Tryd.underlying111
  a105 := Tryd.isAgg111
  z105 := Tryd.sizeOf111
  v105 := Tryd.zeroValue111
  t119 := Tryd.underlying137
  a119 := Tryd.isAgg137
  z119 := Tryd.sizeOf137
  t138 := Tryd.underlying139
  a138 := Tryd.isAgg139
  z138 := Tryd.sizeOf139
  v138 := Tryd.zeroValue139
  t139 := Tryd.underlying140
  a139 := Tryd.isAgg140
  z139 := Tryd.sizeOf140
  v139 := Tryd.zeroValue140
  t146 := Tryd.underlying135
  a146 := Tryd.isAgg135
  z146 := Tryd.sizeOf135
  v146 := Tryd.zeroValue135
  g1 := by kernel_rfl
  g3 := by kernel_rfl
  g4 := by kernel_rfl }
open Go.RowKit Go.Lib in
theorem Tryd.strings_Split (s sep : ByteArray) (m : Int) (w : World) (hs : s.size < 4294967281) (hm : w.cell? ⟨2, 0, none⟩ = some (.int .i64 m)) (h1 : 1 ≤ sep.size) :
    Calls Tryd.prog 38 #[.string s, .string sep] w fun e w' =>
      e = .returned (.slice (some ⟨w.heap.size, 0, none⟩) (Lib.countB s sep + 1) (Lib.countB s sep + 1)) ∧ w' = w.alloc (.cells ((Lib.splitB sep 0 (Lib.countB s sep) s).map Value.string).toArray 9) := Any.strings_Split Tryd.lays146 (by kernel_rfl) s sep m w hs hm h1
end Go.Proofs
namespace Go.Proofs.YtdlcldaogcbnlaaDoor
open Go.RowKit
set_option linter.unusedVariables false
set_option linter.unusedSimpArgs false
def splitTo (s : ByteArray) (c : Nat) : Nat → List ByteArray × Nat
  | 0 => ([], 0)
  | i + 1 => if bAt s i = c then ((splitTo s c i).1 ++ [s.extract (splitTo s c i).2 i], i + 1) else splitTo s c i
def splitL (s : ByteArray) (c : Nat) : List ByteArray := (splitTo s c s.size).1 ++ [s.extract (splitTo s c s.size).2 s.size]
theorem splitTo_le (s : ByteArray) (c : Nat) : ∀ i, (splitTo s c i).1.length ≤ i ∧ (splitTo s c i).2 ≤ i
  | 0 => ⟨Nat.le_refl _, Nat.le_refl _⟩
  | i + 1 => by
    have := splitTo_le s c i
    unfold splitTo
    split
    · exact ⟨by rw [List.length_append, List.length_singleton]; omega, Nat.le_refl _⟩
    · omega
theorem splitTo_yes {s : ByteArray} {c i : Nat} (h : bAt s i = c) : splitTo s c (i + 1) = ((splitTo s c i).1 ++ [s.extract (splitTo s c i).2 i], i + 1) := by rw [splitTo, if_pos h]
theorem splitTo_no {s : ByteArray} {c i : Nat} (h : ¬ bAt s i = c) : splitTo s c (i + 1) = splitTo s c i := by rw [splitTo, if_neg h]
theorem splitL_len (s : ByteArray) (c : Nat) : (splitL s c).length ≤ s.size + 1 := by
  have := (splitTo_le s c s.size).1
  unfold splitL; rw [List.length_append, List.length_singleton]; omega
set_option maxRecDepth 100000 in
set_option maxHeartbeats 1000000 in
theorem l1Split_any (s : ByteArray) (c : Nat) (w : World) (hs : s.size ≤ 1048576) :
    Calls Tryd.prog 78 #[.string s, .int .u8 ((c : Nat) : Int)] w fun e w' => ∃ A' n' c', e = .returned (.slice A' n' c') ∧ w'.ownsRow w.heap.size 9 1 (.slice A' n' c') n' (strsV (splitL s c)) ∧ Below w.heap.size w w' := by
  go_enter Tryd.func78, Tryd.ntmps78
  refine wp_seq_k (fun K1 h1 => ?_)
  refine W.region_quiet [(0, false)] (by kernel_rfl) ?_
  refine W.as (v := .slice none 0 0) (h := ?_)
  refine W.endF 35 [(0, .string s), (1, .int .u8 ((c : Nat) : Int)), (4, .slice none 0 0)] (fun U1 => ?_)
  apply h1
  refine wp_seq_k (fun K2 h2 => ?_)
  refine W.region_plain (row := none) [(0, true), (1, false)] (by kernel_rfl) ?_
  have s2 := SG.self w none
  refine W.sn (fun b => .slice (some ⟨b, 0, none⟩) 0 0) #[] 9 s2 rfl (by kernel_rfl) rfl (fun _ => by kernel_rfl) (fun b3 w4 hb5 k6 x7 s8 => ?_)
  have lo9 : w.heap.size ≤ b3 := by have := ((Sb (Below.refl _ _) s2 nkk)).size; omega
  refine W.as (v := .slice (some ⟨b3, 0, none⟩) 0 0) (h := ?_)
  refine W.endF 35 [(0, .string s), (1, .int .u8 ((c : Nat) : Int)), (4, .slice none 0 0), (5, .slice (some ⟨b3, 0, none⟩) 0 0)] (fun U10 => ?_)
  have c11 := (Sb (Below.refl _ _) s8 nkk)
  apply h2
  refine wp_seq_k (fun K3 h3 => ?_)
  refine W.region_quiet [(0, false)] (by kernel_rfl) ?_
  refine W.as (v := .int .i64 0) (h := ?_)
  refine W.endF 35 [(0, .string s), (1, .int .u8 ((c : Nat) : Int)), (4, .slice none 0 0), (5, .slice (some ⟨b3, 0, none⟩) 0 0), (6, .int .i64 0)] (fun U12 => ?_)
  apply h3
  refine wp_seq_k (fun K4 h4 => ?_)
  refine wp_seq_k (fun K5 h5 => ?_)
  refine W.region_quiet [(0, false)] (by kernel_rfl) ?_
  refine W.as (v := .int .i64 0) (h := ?_)
  refine W.endF 35 [(0, .string s), (1, .int .u8 ((c : Nat) : Int)), (4, .slice none 0 0), (5, .slice (some ⟨b3, 0, none⟩) 0 0), (6, .int .i64 0), (7, .int .i64 0)] (fun U13 => ?_)
  apply h5
  refine wp_block ?_
  have ho14 := own_empty (base := w.heap.size) (size := 1) x7 lo9
  replace ho14 : World.ownsRow _ _ _ _ _ _ (strsV []) := ho14
  refine loopK (fun am0 aa0 wl0 => ∃ (i : Nat) (f : Nat) (A0_5 : Option Addr) (n0_5 : Nat) (c0_5 : Nat) (U0 : Nat → Value), aa0 = ⟨(fr U0 [(0, .string s), (1, .int .u8 ((c : Nat) : Int)), (4, .slice none 0 0), (5, .slice A0_5 n0_5 c0_5), (6, .int .i64 ((f : Nat) : Int)), (7, .int .i64 ((i : Nat) : Int))] 35 0).toArray, []⟩ ∧ (am0 = s.size - i) ∧ (i ≤ s.size) ∧ (f = (splitTo s c i).2) ∧ (n0_5 ≤ i) ∧ (wl0.ownsRow w.heap.size 9 1 (.slice A0_5 n0_5 c0_5) n0_5 (strsV ((splitTo s c i).1))) ∧ (Below w.heap.size w wl0)) (s.size - 0) ?_ ?_
  · exact ⟨0, 0, (some ⟨b3, 0, none⟩), 0, 0, (fun iU9 => lk [(0, .string s), (1, .int .u8 ((c : Nat) : Int)), (4, .slice none 0 0), (5, .slice (some ⟨b3, 0, none⟩) 0 0), (6, .int .i64 0), (7, .int .i64 0)] iU9 (U13 iU9)), (by kernel_rfl), rfl, (Nat.zero_le _), rfl, (Nat.zero_le _), ho14, c11⟩
  rintro am0 aa0 wl0 K6 h6 ⟨i, f, A0_5, n0_5, c0_5, U0, rfl, rfl, hi, hf, hn9, ho0_5, c15⟩
  have hle := splitTo_le s c i
  refine wp_seq_k (fun K7 h7 => ?_)
  refine wp_seq_k (fun K8 h8 => ?_)
  refine W.region_quiet [(0, false), (1, false), (2, false), (3, false)] (by kernel_rfl) ?_
  refine W.mv (v := .int .i64 ((i : Nat) : Int)) (h := ?_)
  refine W.mv (v := .string s) (h := ?_)
  refine W.q (v := .int .i64 ((s.size : Nat) : Int)) (hr := (r_lenS (s := s) rfl (by kernel_rfl) (by kernel_rfl))) (h := ?_)
  by_cases q16 : (((i : Nat) : Int) : Int) < (((s.size : Nat) : Int) : Int)
  · refine W.q (v := .bool true) (hr := (r_lss (m := ((i : Nat) : Int)) (n := ((s.size : Nat) : Int)) rfl (by kernel_rfl) (by kernel_rfl) (dt q16))) (h := ?_)
    refine W.endF 35 [(0, .string s), (1, .int .u8 ((c : Nat) : Int)), (4, .slice none 0 0), (5, .slice A0_5 n0_5 c0_5), (6, .int .i64 ((f : Nat) : Int)), (7, .int .i64 ((i : Nat) : Int)), (12, .bool true)] (fun U17 => ?_)
    apply h8
    refine wp_cond_true (by kernel_rfl) ?_
    apply wp_skip
    apply h7
    refine wp_seq_k (fun K9 h9 => ?_)
    refine wp_block ?_
    refine wp_seq_k (fun K10 h10 => ?_)
    refine W.region_quiet [(0, false), (1, false), (2, false), (3, false), (4, false)] (by kernel_rfl) ?_
    refine W.mv (v := .string s) (h := ?_)
    refine W.mv (v := .int .i64 ((i : Nat) : Int)) (h := ?_)
    refine W.q (v := .int .u8 ((bAt s i : Nat) : Int)) (hr := (r_indexS (s := s) (k := i) rfl (by kernel_rfl) (by kernel_rfl) (by kernel_rfl) (by omega))) (h := ?_)
    refine W.mv (v := .int .u8 ((c : Nat) : Int)) (h := ?_)
    by_cases q18 : (((bAt s i : Nat) : Int) : Int) = (((c : Nat) : Int) : Int)
    · refine W.q (v := .bool true) (hr := (r_eqlK (k := .u8) (m := ((bAt s i : Nat) : Int)) (n := ((c : Nat) : Int)) rfl (by kernel_rfl) (by kernel_rfl) (dt q18))) (h := ?_)
      refine W.endF 35 [(0, .string s), (1, .int .u8 ((c : Nat) : Int)), (4, .slice none 0 0), (5, .slice A0_5 n0_5 c0_5), (6, .int .i64 ((f : Nat) : Int)), (7, .int .i64 ((i : Nat) : Int)), (12, .bool true), (19, .bool true)] (fun U19 => ?_)
      apply h10
      refine wp_cond_true (by kernel_rfl) ?_
      refine wp_seq_k (fun K11 h11 => ?_)
      refine W.region_plain (row := (Value.ownBlock (.slice A0_5 n0_5 c0_5))) [(0, false), (1, false), (2, false), (3, false), (4, false), (5, true), (6, true), (7, false)] (by kernel_rfl) ?_
      have s20 := SG.self wl0 (Value.ownBlock (.slice A0_5 n0_5 c0_5))
      refine W.mv (v := .slice A0_5 n0_5 c0_5) (h := ?_)
      refine W.mv (v := .string s) (h := ?_)
      refine W.mv (v := .int .i64 ((f : Nat) : Int)) (h := ?_)
      refine W.mv (v := .int .i64 ((i : Nat) : Int)) (h := ?_)
      refine W.q (v := .string (s.extract f i)) (hr := (r_cutS (s := s) (l := f) (h := i) rfl (by kernel_rfl) (by kernel_rfl) (by kernel_rfl) (by kernel_rfl) (by omega) (by omega))) (h := ?_)
      refine W.sn (fun b => .slice (some ⟨b, 0, none⟩) 1 1) #[.string (s.extract f i)] 9 s20 rfl (by kernel_rfl) rfl (fun _ => by kernel_rfl) (fun b21 w22 hb23 k24 x25 s26 => ?_)
      have lo27 : w.heap.size ≤ b21 := by have := ((Sb c15 s20 (fun kq e => (World.ownsRow.lt ho0_5 kq e).1))).size; omega
      have nb28 : Nb b21 (.slice A0_5 n0_5 c0_5) := nb_hi ho0_5 (Nat.le_of_eq hb23)
      have ho29 := own_kept ho0_5 k24
      refine W.sap (e := 9) (size := 1) (base := w.heap.size) (m := 1) (v := .slice A0_5 n0_5 c0_5) (c := 1) s26 rfl rfl rfl rfl (by kernel_rfl) (by kernel_rfl) (by kernel_rfl) ho29 x25 (by kernel_rfl) (by kernel_rfl) (by omega) (by omega) (by have := ((Sb c15 s26 (fun kq e => (World.ownsRow.lt ho0_5 kq e).1))).size; omega) (.inl rfl) (fun g30 cap31 w32 ho33 hg34 hat35 hlt36 s37 => ?_)
      have nb38 : Nb b21 (.slice (some ⟨g30, 0, none⟩) (n0_5 + 1) cap31) := nb_app nb28 (blk_lt x25) hat35
      have x25 := (hg34.block _ (blk_lt x25) nb28).trans x25
      have ho33 := own_snocS ho33
      refine W.as (v := .slice (some ⟨g30, 0, none⟩) (n0_5 + 1) cap31) (h := ?_)
      refine W.endF 35 [(0, .string s), (1, .int .u8 ((c : Nat) : Int)), (4, .slice none 0 0), (5, .slice (some ⟨g30, 0, none⟩) (n0_5 + 1) cap31), (6, .int .i64 ((f : Nat) : Int)), (7, .int .i64 ((i : Nat) : Int)), (12, .bool true), (19, .bool true)] (fun U39 => ?_)
      have c40 := (Sb c15 s37 (fun kq e => (World.ownsRow.lt ho0_5 kq e).1))
      apply h11
      refine W.region_quiet [(0, false), (1, false), (2, false)] (by kernel_rfl) ?_
      refine W.mv (v := .int .i64 ((i : Nat) : Int)) (h := ?_)
      refine W.q (v := .int .i64 ((i + 1 : Nat) : Int)) (hr := (r_add (m := ((i : Nat) : Int)) (n := 1) (z := ((i + 1 : Nat) : Int)) rfl (by kernel_rfl) (by kernel_rfl) (by omega) (by omega))) (h := ?_)
      refine W.as (v := .int .i64 ((i + 1 : Nat) : Int)) (h := ?_)
      refine W.endF 35 [(0, .string s), (1, .int .u8 ((c : Nat) : Int)), (4, .slice none 0 0), (5, .slice (some ⟨g30, 0, none⟩) (n0_5 + 1) cap31), (6, .int .i64 ((i + 1 : Nat) : Int)), (7, .int .i64 ((i : Nat) : Int)), (12, .bool true), (19, .bool true)] (fun U41 => ?_)
      apply h9
      refine W.region_quiet [(0, false), (1, false), (2, false)] (by kernel_rfl) ?_
      refine W.mv (v := .int .i64 ((i : Nat) : Int)) (h := ?_)
      refine W.q (v := .int .i64 ((i + 1 : Nat) : Int)) (hr := (r_add (m := ((i : Nat) : Int)) (n := 1) (z := ((i + 1 : Nat) : Int)) rfl (by kernel_rfl) (by kernel_rfl) (by omega) (by omega))) (h := ?_)
      refine W.as (v := .int .i64 ((i + 1 : Nat) : Int)) (h := ?_)
      refine W.endF 35 [(0, .string s), (1, .int .u8 ((c : Nat) : Int)), (4, .slice none 0 0), (5, .slice (some ⟨g30, 0, none⟩) (n0_5 + 1) cap31), (6, .int .i64 ((i + 1 : Nat) : Int)), (7, .int .i64 ((i + 1 : Nat) : Int)), (12, .bool true), (19, .bool true)] (fun U42 => ?_)
      have hst := splitTo_yes (s := s) (c := c) (i := i) (by omega)
      have hle9 := splitTo_le s c (i + 1)
      have hfr : i + 1 = (splitTo s c (i + 1)).2 := by rw [hst]
      exact h6 _ _ _ (by omega : (s.size - (i + 1)) < _) ⟨i + 1, i + 1, (some ⟨g30, 0, none⟩), (n0_5 + 1), cap31, (fun iU9 => lk [(0, .string s), (1, .int .u8 ((c : Nat) : Int)), (4, .slice none 0 0), (5, .slice (some ⟨g30, 0, none⟩) (n0_5 + 1) cap31), (6, .int .i64 ((i + 1 : Nat) : Int)), (7, .int .i64 ((i + 1 : Nat) : Int)), (12, .bool true), (19, .bool true)] iU9 (U42 iU9)), (by kernel_rfl), rfl, (by omega), (by rw [hst]), (by omega), (by rw [(show (splitTo s c (i + 1)).1 = ((splitTo s c i).1 ++ [(s.extract f i)]) from by rw [hst, ← hf])]; exact ho33), c40⟩
    · refine W.q (v := .bool false) (hr := (r_eqlK (k := .u8) (m := ((bAt s i : Nat) : Int)) (n := ((c : Nat) : Int)) rfl (by kernel_rfl) (by kernel_rfl) (df q18))) (h := ?_)
      refine W.endF 35 [(0, .string s), (1, .int .u8 ((c : Nat) : Int)), (4, .slice none 0 0), (5, .slice A0_5 n0_5 c0_5), (6, .int .i64 ((f : Nat) : Int)), (7, .int .i64 ((i : Nat) : Int)), (12, .bool true), (19, .bool false)] (fun U43 => ?_)
      apply h10
      refine wp_cond_false (by kernel_rfl) ?_
      apply wp_skip
      apply h9
      refine W.region_quiet [(0, false), (1, false), (2, false)] (by kernel_rfl) ?_
      refine W.mv (v := .int .i64 ((i : Nat) : Int)) (h := ?_)
      refine W.q (v := .int .i64 ((i + 1 : Nat) : Int)) (hr := (r_add (m := ((i : Nat) : Int)) (n := 1) (z := ((i + 1 : Nat) : Int)) rfl (by kernel_rfl) (by kernel_rfl) (by omega) (by omega))) (h := ?_)
      refine W.as (v := .int .i64 ((i + 1 : Nat) : Int)) (h := ?_)
      refine W.endF 35 [(0, .string s), (1, .int .u8 ((c : Nat) : Int)), (4, .slice none 0 0), (5, .slice A0_5 n0_5 c0_5), (6, .int .i64 ((f : Nat) : Int)), (7, .int .i64 ((i + 1 : Nat) : Int)), (12, .bool true), (19, .bool false)] (fun U44 => ?_)
      have hst := splitTo_no (s := s) (c := c) (i := i) (by omega)
      have hle9 := splitTo_le s c (i + 1)
      exact h6 _ _ _ (by omega : (s.size - (i + 1)) < _) ⟨i + 1, f, A0_5, n0_5, c0_5, (fun iU9 => lk [(0, .string s), (1, .int .u8 ((c : Nat) : Int)), (4, .slice none 0 0), (5, .slice A0_5 n0_5 c0_5), (6, .int .i64 ((f : Nat) : Int)), (7, .int .i64 ((i + 1 : Nat) : Int)), (12, .bool true), (19, .bool false)] iU9 (U44 iU9)), (by kernel_rfl), rfl, (by omega), (by rw [hst]; exact hf), (by omega), (by rw [(show (splitTo s c (i + 1)).1 = (splitTo s c i).1 from by rw [hst])]; exact ho0_5), c15⟩
  · refine W.q (v := .bool false) (hr := (r_lss (m := ((i : Nat) : Int)) (n := ((s.size : Nat) : Int)) rfl (by kernel_rfl) (by kernel_rfl) (df q16))) (h := ?_)
    refine W.endF 35 [(0, .string s), (1, .int .u8 ((c : Nat) : Int)), (4, .slice none 0 0), (5, .slice A0_5 n0_5 c0_5), (6, .int .i64 ((f : Nat) : Int)), (7, .int .i64 ((i : Nat) : Int)), (12, .bool false)] (fun U45 => ?_)
    apply h8
    refine wp_cond_false (by kernel_rfl) ?_
    refine wp_exit ?_
    apply h4
    refine wp_seq_k (fun K12 h12 => ?_)
    refine W.region_plain (row := (Value.ownBlock (.slice A0_5 n0_5 c0_5))) [(0, false), (1, false), (2, false), (3, false), (4, true), (5, true), (6, false)] (by kernel_rfl) ?_
    have s46 := SG.self wl0 (Value.ownBlock (.slice A0_5 n0_5 c0_5))
    refine W.mv (v := .slice A0_5 n0_5 c0_5) (h := ?_)
    refine W.mv (v := .string s) (h := ?_)
    refine W.mv (v := .int .i64 ((f : Nat) : Int)) (h := ?_)
    refine W.q (v := .string (s.extract f s.size)) (hr := (r_fromS (s := s) (l := f) rfl (by kernel_rfl) (by kernel_rfl) (by kernel_rfl) (by omega))) (h := ?_)
    refine W.sn (fun b => .slice (some ⟨b, 0, none⟩) 1 1) #[.string (s.extract f s.size)] 9 s46 rfl (by kernel_rfl) rfl (fun _ => by kernel_rfl) (fun b47 w48 hb49 k50 x51 s52 => ?_)
    have lo53 : w.heap.size ≤ b47 := by have := ((Sb c15 s46 (fun kq e => (World.ownsRow.lt ho0_5 kq e).1))).size; omega
    have nb54 : Nb b47 (.slice A0_5 n0_5 c0_5) := nb_hi ho0_5 (Nat.le_of_eq hb49)
    have ho55 := own_kept ho0_5 k50
    refine W.sap (e := 9) (size := 1) (base := w.heap.size) (m := 1) (v := .slice A0_5 n0_5 c0_5) (c := 1) s52 rfl rfl rfl rfl (by kernel_rfl) (by kernel_rfl) (by kernel_rfl) ho55 x51 (by kernel_rfl) (by kernel_rfl) (by omega) (by omega) (by have := ((Sb c15 s52 (fun kq e => (World.ownsRow.lt ho0_5 kq e).1))).size; omega) (.inl rfl) (fun g56 cap57 w58 ho59 hg60 hat61 hlt62 s63 => ?_)
    have nb64 : Nb b47 (.slice (some ⟨g56, 0, none⟩) (n0_5 + 1) cap57) := nb_app nb54 (blk_lt x51) hat61
    have x51 := (hg60.block _ (blk_lt x51) nb54).trans x51
    have ho59 := own_snocS ho59
    refine W.as (v := .slice (some ⟨g56, 0, none⟩) (n0_5 + 1) cap57) (h := ?_)
    refine W.endF 35 [(0, .string s), (1, .int .u8 ((c : Nat) : Int)), (4, .slice (some ⟨g56, 0, none⟩) (n0_5 + 1) cap57), (5, .slice A0_5 n0_5 c0_5), (6, .int .i64 ((f : Nat) : Int)), (7, .int .i64 ((i : Nat) : Int)), (12, .bool false)] (fun U65 => ?_)
    have c66 := (Sb c15 s63 (fun kq e => (World.ownsRow.lt ho0_5 kq e).1))
    apply h12
    refine wp_ret ?_
    try simp only [Exit.then]
    refine ret1 (v := .slice (some ⟨g56, 0, none⟩) (n0_5 + 1) cap57) rfl (by kernel_rfl) ?_
    have e8 : i = s.size := by omega
    have e9 : splitL s c = ((splitTo s c i).1 ++ [(s.extract f s.size)]) := by unfold splitL; rw [← e8, ← hf]
    exact ⟨_, _, _, rfl, (by rw [e9]; exact ho59), c66⟩
def standsTo (s : ByteArray) (c i : Nat) : Prop := ∃ j, j < i ∧ bAt s j = c
instance (s : ByteArray) (c i : Nat) : Decidable (standsTo s c i) := inferInstanceAs (Decidable (∃ j, j < i ∧ bAt s j = c))
def standsB (s : ByteArray) (c : Nat) : Bool := decide (standsTo s c s.size)
end Go.Proofs.YtdlcldaogcbnlaaDoor
namespace Go.Proofs.YtdlcldaogcbnlaaDoor
open Go.RowKit
set_option linter.unusedVariables false
theorem stands_contains {s : ByteArray} {c : Nat} (hc : c < 256) : standsB s c = s.data.toList.contains (UInt8.ofNat c) := by
  unfold standsB
  rw [Bool.eq_iff_iff, decide_eq_true_iff, List.contains_iff_mem]
  constructor
  · rintro ⟨j, h1, h2⟩
    rw [bAt_get h1] at h2
    have : UInt8.ofNat c = s[j] := by rw [← h2]; simp
    rw [this]
    exact List.mem_of_getElem? (i := j) (by rw [List.getElem?_eq_getElem (by simpa using h1)]; rfl)
  · intro h
    obtain ⟨j, hj, e⟩ := List.getElem_of_mem h
    refine ⟨j, by simpa using hj, ?_⟩
    rw [bAt_get (by simpa using hj)]
    have e2 : s[j]'(by simpa using hj) = UInt8.ofNat c := e
    rw [e2]; simp; omega
end Go.Proofs.YtdlcldaogcbnlaaDoor
namespace Go.Proofs.YtdlcldaogcbnlaaDoor
set_option linter.unusedVariables false
end Go.Proofs.YtdlcldaogcbnlaaDoor
namespace Go.Proofs.YtdlcldaogcbnlaaDoor
open Go.RowKit
set_option linter.unusedVariables false
theorem splitL_pos (s : ByteArray) (c : Nat) : 0 < (splitL s c).length := by
  unfold splitL; rw [List.length_append, List.length_singleton]; omega
end Go.Proofs.YtdlcldaogcbnlaaDoor
namespace Go.Proofs.YtdlcldaogcbnlaaDoor
open Go.RowKit
set_option linter.unusedVariables false
set_option linter.unusedSimpArgs false
theorem tab_kept {w w' : World} (h : Lib.TabIs Tryd.prog w "internal/strconv.uint64pow10" .u64 Lib.pow10Tab) (b : Below w.heap.size w w') : Lib.TabIs Tryd.prog w' "internal/strconv.uint64pow10" .u64 Lib.pow10Tab := Lib.tabBelow_of_tabIs h _ b
theorem itoa_lib (n : Int) (h0 : -9223372036854775808 ≤ n) (h1 : n ≤ 9223372036854775807) (w : World) (htab : Lib.TabIs Tryd.prog w "internal/strconv.uint64pow10" .u64 Lib.pow10Tab) :
    Calls Tryd.prog 66 #[.int .i64 n] w fun e w' => e = .returned (.string (itoaB n)) ∧ Below w.heap.size w w' :=
  (Tryd.strconv_Itoa n (by omega) (by omega) w htab).mono fun e w' ⟨h, k, os, hw⟩ => ⟨h, by subst hw; exact Lib.below_grow _ _ (Nat.le_refl _) k os⟩
theorem laid_plain {l : List (String × DataW Unit)} {W : World} (hp : (l.all fun x => x.2.handleName?.isNone) = true) (h : laidMetH Tryd.prog l W) : laidMet Tryd.prog l W := by
  rw [MakeChecks.laidMetH_plain _ _ _ hp] at h; exact h
theorem tab_of {a b : String × DataW Unit} {rest : List (String × DataW Unit)} {W : World} (h : laidMet Tryd.prog (a :: b :: ("internal/strconv.uint64pow10", Lib.tabData .u64 Lib.pow10Tab) :: rest) W) : Lib.TabIs Tryd.prog W "internal/strconv.uint64pow10" .u64 Lib.pow10Tab :=
  Lib.tabIs_of_head (g := 3) (by kernel_rfl) (t := 126) (by kernel_rfl) (e := 64) (n := 20) (by kernel_rfl) (by kernel_rfl) (by kernel_rfl) (by kernel_rfl) h.tail.tail
def MaxIs (w : World) : Prop := ∃ m, w.cell? ⟨2, 0, none⟩ = some (.int .i64 m)
theorem max_kept {w w' : World} (h : MaxIs w) (b : Below w.heap.size w w') : MaxIs w' := let ⟨m, h1⟩ := h; ⟨m, later b h1⟩
theorem max_of {w : World} (h : w.ShapedOpen Tryd.prog) : MaxIs w := Tryd.laysM145.s1_3 w h
end Go.Proofs.YtdlcldaogcbnlaaDoor
namespace Go.Proofs.YtdlcldaogcbnlaaDoor
open Go.RowKit
set_option linter.unusedVariables false
set_option linter.unusedSimpArgs false
def lineB (p : Pp) : ByteArray := itoaB p.id ++ (⟨#[58, 32]⟩ : ByteArray) ++ itoaB p.fr ++ (⟨#[45]⟩ : ByteArray) ++ itoaB p.to ++ (⟨#[32, 115, 105, 122, 101, 32]⟩ : ByteArray) ++ itoaB p.sz ++ (⟨#[10]⟩ : ByteArray)
def textN (m : Int) (ps : List Pp) : ByteArray := ps.foldl (fun s p => s ++ lineB p) ((⟨#[110, 111, 100, 101, 115, 32]⟩ : ByteArray) ++ itoaB m ++ (⟨#[10]⟩ : ByteArray))
theorem textN_take {m : Int} {ps : List Pp} {k : Nat} {p : Pp} (h : ps[k]? = some p) : textN m (ps.take (k + 1)) = textN m (ps.take k) ++ lineB p := by
  unfold textN
  rw [List.take_add_one, h, List.foldl_append]; rfl
theorem sz2 (a b : UInt8) : (⟨#[a, b]⟩ : ByteArray).size = 2 := rfl
theorem sz6 (a b c d e f : UInt8) : (⟨#[a, b, c, d, e, f]⟩ : ByteArray).size = 6 := rfl
def NetworkText_v1 (m : Int) (ps : List Pp) : Bool := goodN m ps
def NetworkText_v0 (m : Int) (ps : List Pp) : ByteArray := if goodN m ps = true then textN m ps else ⟨#[]⟩
theorem nt_yes {m : Int} {ps : List Pp} (h : goodN m ps = true) : NetworkText_v1 m ps = true ∧ NetworkText_v0 m ps = textN m ps := ⟨h, if_pos h⟩
theorem nt_no {m : Int} {ps : List Pp} (h : goodN m ps = false) : NetworkText_v1 m ps = false ∧ NetworkText_v0 m ps = ⟨#[]⟩ := ⟨h, if_neg (by rw [h]; simp)⟩
def smallN (m : Int) (ps : List Pp) : Prop := (-1000000 ≤ m ∧ m ≤ 1000000) ∧ ps.length ≤ 100 ∧ ∀ p ∈ ps, (-1000000 ≤ p.id ∧ p.id ≤ 1000000) ∧ (-1000000 ≤ p.fr ∧ p.fr ≤ 1000000) ∧ (-1000000 ≤ p.to ∧ p.to ≤ 1000000) ∧ -1000000 ≤ p.sz ∧ p.sz ≤ 1000000
theorem good_small {m : Int} {ps : List Pp} (h : goodN m ps = true) : smallN m ps := by
  have hg := good_of h
  refine ⟨⟨by have := hg.lo; omega, by have := hg.hi; omega⟩, by have := hg.len; omega, fun p hp => ?_⟩
  have h1 := hg.pipe hp
  have h2 := hg.hi
  omega
end Go.Proofs.YtdlcldaogcbnlaaDoor
namespace Go.Proofs.YtdlcldaogcbnlaaDoor
open Go.RowKit
set_option linter.unusedVariables false
set_option linter.unusedSimpArgs false
set_option maxRecDepth 100000 in
set_option maxHeartbeats 1000000 in
theorem l2Text_any (m : Int) (A : Option Addr) (n c : Nat) (ps : List Pp) (w : World) (ha : Rd w 4 A n (pipesV ps)) (hsm : smallN m ps) :
    Calls Tryd.prog 46 #[.agg #[.int .i64 m, .slice A n c]] w fun e w' => e = .returned (.string (textN m ps)) ∧ Below w.heap.size w w' := by
  have hl := rd_pipes_len ha
  have hm9 := hsm.1
  have hl9 := hsm.2.1
  go_enter Tryd.func46, Tryd.ntmps46
  refine wp_seq_k (fun K1 h1 => ?_)
  refine W.region_plain (row := none) [(0, true), (1, false)] (by kernel_rfl) ?_
  have s1 := SG.self w none
  refine W.sn (fun b => .pointer (some ⟨b, 0, none⟩)) #[.int .i64 m, .slice A n c] 24 s1 rfl (by kernel_rfl) rfl (fun _ => by kernel_rfl) (fun b2 w3 hb4 k5 x6 s7 => ?_)
  have lo8 : w.heap.size ≤ b2 := by have := ((Sb (Below.refl _ _) s1 nkk)).size; omega
  refine W.as (v := .string (⟨#[]⟩ : ByteArray)) (h := ?_)
  refine W.endF 45 [(0, .agg #[.int .i64 m, .slice A n c]), (1, .pointer (some ⟨b2, 0, none⟩)), (2, .string (⟨#[]⟩ : ByteArray))] (fun U9 => ?_)
  have c10 := (Sb (Below.refl _ _) s7 nkk)
  apply h1
  refine wp_seq_k (fun K2 h2 => ?_)
  refine W.region_plain (row := none) [(0, false), (1, false), (2, true), (3, false), (4, false), (5, false)] (by kernel_rfl) ?_
  have s11 := SG.self w3 none
  refine W.q (v := .pointer (some ⟨b2, 0, none⟩)) (hr := (r_field0 rfl (by kernel_rfl) (by kernel_rfl))) (h := ?_)
  refine W.ld (v := .int .i64 m) (hc := (sgS (blk_cell (j := 0) x6 (by kernel_rfl)) (by simp))) (h := ?_)
  refine W.sc (vs := [.int .i64 m]) rfl rfl (by kernel_rfl) (by kernel_rfl) (by kernel_rfl) rfl (l1Num_any m (by omega) (by omega) _) ?_
  rintro e w13 ⟨rfl, b12⟩
  have s14 := SG.of_below s11 b12
  refine ⟨_, rfl, s14, ?_⟩
  refine W.q (v := .string ((⟨#[110, 111, 100, 101, 115, 32]⟩ : ByteArray) ++ (itoaB m))) (hr := (r_addS (s := (⟨#[110, 111, 100, 101, 115, 32]⟩ : ByteArray)) (r := (itoaB m)) rfl (by kernel_rfl) (by kernel_rfl) (by (try simp only [ByteArray.size_append, size1, sz2, sz6]); have := itoaB_le (n := m) (by omega) (by omega); omega))) (h := ?_)
  refine W.q (v := .string (((⟨#[110, 111, 100, 101, 115, 32]⟩ : ByteArray) ++ (itoaB m)) ++ (⟨#[10]⟩ : ByteArray))) (hr := (r_addS (s := ((⟨#[110, 111, 100, 101, 115, 32]⟩ : ByteArray) ++ (itoaB m))) (r := (⟨#[10]⟩ : ByteArray)) rfl (by kernel_rfl) (by kernel_rfl) (by (try simp only [ByteArray.size_append, size1, sz2, sz6]); have := itoaB_le (n := m) (by omega) (by omega); omega))) (h := ?_)
  refine W.as (v := .string (((⟨#[110, 111, 100, 101, 115, 32]⟩ : ByteArray) ++ (itoaB m)) ++ (⟨#[10]⟩ : ByteArray))) (h := ?_)
  refine W.endF 45 [(0, .agg #[.int .i64 m, .slice A n c]), (1, .pointer (some ⟨b2, 0, none⟩)), (2, .string (⟨#[]⟩ : ByteArray)), (3, .string (((⟨#[110, 111, 100, 101, 115, 32]⟩ : ByteArray) ++ (itoaB m)) ++ (⟨#[10]⟩ : ByteArray)))] (fun U15 => ?_)
  have x6 := Sk s14 x6 (by simp)
  have c16 := (Sb c10 s14 nkk)
  apply h2
  refine wp_seq_k (fun K3 h3 => ?_)
  refine wp_seq_k (fun K4 h4 => ?_)
  refine W.region_quiet [(0, false)] (by kernel_rfl) ?_
  refine W.as (v := .int .i64 0) (h := ?_)
  refine W.endF 45 [(0, .agg #[.int .i64 m, .slice A n c]), (1, .pointer (some ⟨b2, 0, none⟩)), (2, .string (⟨#[]⟩ : ByteArray)), (3, .string (((⟨#[110, 111, 100, 101, 115, 32]⟩ : ByteArray) ++ (itoaB m)) ++ (⟨#[10]⟩ : ByteArray))), (4, .int .i64 0)] (fun U17 => ?_)
  apply h4
  refine wp_block ?_
  refine loopK (fun am0 aa0 wl0 => ∃ (k : Nat) (s : ByteArray) (U0 : Nat → Value), aa0 = ⟨(fr U0 [(0, .agg #[.int .i64 m, .slice A n c]), (1, .pointer (some ⟨b2, 0, none⟩)), (2, .string (⟨#[]⟩ : ByteArray)), (3, .string s), (4, .int .i64 ((k : Nat) : Int))] 45 0).toArray, []⟩ ∧ (am0 = n - k) ∧ (k ≤ n) ∧ (s = textN m (ps.take k)) ∧ (s.size ≤ 100 + 200 * k) ∧ (wl0.heap[b2]? = some (.cells #[.int .i64 m, .slice A n c] 24 (0, 0))) ∧ (Below w.heap.size w wl0)) (n - 0) ?_ ?_
  · exact ⟨0, (((⟨#[110, 111, 100, 101, 115, 32]⟩ : ByteArray) ++ (itoaB m)) ++ (⟨#[10]⟩ : ByteArray)), (fun iU9 => lk [(0, .agg #[.int .i64 m, .slice A n c]), (1, .pointer (some ⟨b2, 0, none⟩)), (2, .string (⟨#[]⟩ : ByteArray)), (3, .string (((⟨#[110, 111, 100, 101, 115, 32]⟩ : ByteArray) ++ (itoaB m)) ++ (⟨#[10]⟩ : ByteArray))), (4, .int .i64 0)] iU9 (U17 iU9)), (by kernel_rfl), rfl, (Nat.zero_le _), rfl, (by (try simp only [ByteArray.size_append, size1, sz2, sz6]); have := itoaB_le (n := m) (by omega) (by omega); omega), x6, c16⟩
  rintro am0 aa0 wl0 K5 h5 ⟨k, s, U0, rfl, rfl, hk, hs9, hsz, x6, c18⟩
  refine wp_seq_k (fun K6 h6 => ?_)
  refine wp_seq_k (fun K7 h7 => ?_)
  refine W.region_quiet [(0, false), (1, false), (2, false), (3, false), (4, false)] (by kernel_rfl) ?_
  refine W.mv (v := .int .i64 ((k : Nat) : Int)) (h := ?_)
  refine W.q (v := .pointer (some ⟨b2, 1, none⟩)) (hr := (r_field (k := 1) rfl (by kernel_rfl) (by kernel_rfl))) (h := ?_)
  refine W.ld (v := .slice A n c) (hc := (eqS (blk_cell (j := 1) x6 (by kernel_rfl)))) (h := ?_)
  refine W.q (v := .int .i64 ((n : Nat) : Int)) (hr := (r_len (A := A) (n := n) (c := c) rfl (by kernel_rfl) (by kernel_rfl))) (h := ?_)
  by_cases q19 : (((k : Nat) : Int) : Int) < (((n : Nat) : Int) : Int)
  · refine W.q (v := .bool true) (hr := (r_lss (m := ((k : Nat) : Int)) (n := ((n : Nat) : Int)) rfl (by kernel_rfl) (by kernel_rfl) (dt q19))) (h := ?_)
    refine W.endF 45 [(0, .agg #[.int .i64 m, .slice A n c]), (1, .pointer (some ⟨b2, 0, none⟩)), (2, .string (⟨#[]⟩ : ByteArray)), (3, .string s), (4, .int .i64 ((k : Nat) : Int)), (15, .bool true)] (fun U20 => ?_)
    apply h7
    refine wp_cond_true (by kernel_rfl) ?_
    apply wp_skip
    apply h6
    refine wp_seq_k (fun K8 h8 => ?_)
    refine wp_block ?_
    refine wp_seq_k (fun K9 h9 => ?_)
    refine W.region_plain (row := none) [(0, false), (1, false), (2, false), (3, false), (4, false), (5, true), (6, true)] (by kernel_rfl) ?_
    have s21 := SG.self wl0 none
    refine W.q (v := .pointer (some ⟨b2, 1, none⟩)) (hr := (r_field (k := 1) rfl (by kernel_rfl) (by kernel_rfl))) (h := ?_)
    refine W.ld (v := .slice A n c) (hc := (sgS (blk_cell (j := 1) x6 (by kernel_rfl)) (by simp))) (h := ?_)
    refine W.mv (v := .int .i64 ((k : Nat) : Int)) (h := ?_)
    obtain ⟨x22, hx23⟩ := get_of (zs := ps) (k := k) (by have := hl; omega)
    have hpb := hsm.2.2 _ (List.mem_of_getElem? hx23)
    obtain ⟨b24, o25, hA26, hb27, hc28, hc29, hc30, hc31⟩ := Rd.elPipe ha hx23
    refine W.q (v := .pointer (some ⟨b24, o25 + k * 4, none⟩)) (hr := (r_idx (n := n) (c := c) (k := k) rfl (by kernel_rfl) hA26 (by kernel_rfl) (by kernel_rfl) (by have := hl; omega))) (h := ?_)
    refine W.q (v := .agg #[.int .i64 x22.id, .int .i64 x22.fr, .int .i64 x22.to, .int .i64 x22.sz]) (hr := (r_load4 rfl (by kernel_rfl) (by kernel_rfl) (by kernel_rfl) (sgS (later c18 hc28) (by simp)) (sgS (later c18 hc29) (by simp)) (sgS (later c18 hc30) (by simp)) (sgS (later c18 hc31) (by simp)))) (h := ?_)
    refine W.sn (fun b => .pointer (some ⟨b, 0, none⟩)) #[.int .i64 0, .int .i64 0, .int .i64 0, .int .i64 0] 38 s21 rfl (by kernel_rfl) rfl (fun _ => by kernel_rfl) (fun b32 w33 hb34 k35 x36 s37 => ?_)
    have lo38 : w.heap.size ≤ b32 := by have := ((Sb c18 s21 nkk)).size; omega
    have ne39 : b2 ≠ b32 := by have := blk_lt x6; have := (s21).size; omega
    refine W.ss (v := .agg #[.int .i64 x22.id, .int .i64 x22.fr, .int .i64 x22.to, .int .i64 x22.sz]) (j := 0) (news := [.int .i64 x22.id, .int .i64 x22.fr, .int .i64 x22.to, .int .i64 x22.sz]) (cs' := #[.int .i64 x22.id, .int .i64 x22.fr, .int .i64 x22.to, .int .i64 x22.sz]) s37 rfl (by kernel_rfl) rfl rfl (by kernel_rfl) (by kernel_rfl) x36 (by kernel_rfl) (by kernel_rfl) (by simp) (by kernel_rfl) (by kernel_rfl) (.inr (by have := (s21).size; have := hb34; omega)) (fun w40 g41 x42 s43 => ?_)
    refine W.endF 45 [(0, .agg #[.int .i64 m, .slice A n c]), (1, .pointer (some ⟨b2, 0, none⟩)), (2, .string (⟨#[]⟩ : ByteArray)), (3, .string s), (4, .int .i64 ((k : Nat) : Int)), (5, .pointer (some ⟨b32, 0, none⟩)), (15, .bool true)] (fun U44 => ?_)
    have x6 := Sk s43 x6 (by simp)
    have c45 := (Sb c18 s43 nkk)
    apply h9
    refine W.region_sch (row := none) (Sch.of [(0, false), (1, false), (2, false), (6, false), (7, false), (11, false), (12, false), (16, false), (17, false), (3, true), (4, false), (5, false), (8, true), (9, false), (10, false), (13, true), (14, false), (15, false), (18, true), (19, false), (20, false), (21, false)]) (by kernel_rfl) (by kernel_rfl) (fun _ d _ _ _ h => by cases d <;> exact h) (by kernel_rfl) (fun w46 e47 s48 => ?_)
    refine W.mv (v := .string s) (h := ?_)
    refine W.q (v := .pointer (some ⟨b32, 0, none⟩)) (hr := (r_field0 rfl (by kernel_rfl) (by kernel_rfl))) (h := ?_)
    refine W.ld (v := .int .i64 x22.id) (hc := (sgS (blk_cell (j := 0) x42 (by kernel_rfl)) (by simp))) (h := ?_)
    refine W.q (v := .pointer (some ⟨b32, 1, none⟩)) (hr := (r_field (k := 1) rfl (by kernel_rfl) (by kernel_rfl))) (h := ?_)
    refine W.ld (v := .int .i64 x22.fr) (hc := (sgS (blk_cell (j := 1) x42 (by kernel_rfl)) (by simp))) (h := ?_)
    refine W.q (v := .pointer (some ⟨b32, 2, none⟩)) (hr := (r_field (k := 2) rfl (by kernel_rfl) (by kernel_rfl))) (h := ?_)
    refine W.ld (v := .int .i64 x22.to) (hc := (sgS (blk_cell (j := 2) x42 (by kernel_rfl)) (by simp))) (h := ?_)
    refine W.q (v := .pointer (some ⟨b32, 3, none⟩)) (hr := (r_field (k := 3) rfl (by kernel_rfl) (by kernel_rfl))) (h := ?_)
    refine W.ld (v := .int .i64 x22.sz) (hc := (sgS (blk_cell (j := 3) x42 (by kernel_rfl)) (by simp))) (h := ?_)
    refine W.sc (vs := [.int .i64 x22.id]) rfl rfl (by kernel_rfl) (by kernel_rfl) (by kernel_rfl) rfl (l1Num_any x22.id (by omega) (by omega) _) ?_
    rintro e w50 ⟨rfl, b49⟩
    have s51 := SG.of_below s48 b49
    refine ⟨_, rfl, s51, ?_⟩
    refine W.q (v := .string (s ++ (itoaB x22.id))) (hr := (r_addS (s := s) (r := (itoaB x22.id)) rfl (by kernel_rfl) (by kernel_rfl) (by (try simp only [ByteArray.size_append, size1, sz2, sz6]); have := itoaB_le (n := x22.id) (by omega) (by omega); omega))) (h := ?_)
    refine W.q (v := .string ((s ++ (itoaB x22.id)) ++ (⟨#[58, 32]⟩ : ByteArray))) (hr := (r_addS (s := (s ++ (itoaB x22.id))) (r := (⟨#[58, 32]⟩ : ByteArray)) rfl (by kernel_rfl) (by kernel_rfl) (by (try simp only [ByteArray.size_append, size1, sz2, sz6]); have := itoaB_le (n := x22.id) (by omega) (by omega); omega))) (h := ?_)
    refine W.sc (vs := [.int .i64 x22.fr]) rfl rfl (by kernel_rfl) (by kernel_rfl) (by kernel_rfl) rfl (l1Num_any x22.fr (by omega) (by omega) _) ?_
    rintro e w53 ⟨rfl, b52⟩
    have s54 := SG.of_below s51 b52
    refine ⟨_, rfl, s54, ?_⟩
    refine W.q (v := .string (((s ++ (itoaB x22.id)) ++ (⟨#[58, 32]⟩ : ByteArray)) ++ (itoaB x22.fr))) (hr := (r_addS (s := ((s ++ (itoaB x22.id)) ++ (⟨#[58, 32]⟩ : ByteArray))) (r := (itoaB x22.fr)) rfl (by kernel_rfl) (by kernel_rfl) (by (try simp only [ByteArray.size_append, size1, sz2, sz6]); have := itoaB_le (n := x22.fr) (by omega) (by omega); have := itoaB_le (n := x22.id) (by omega) (by omega); omega))) (h := ?_)
    refine W.q (v := .string ((((s ++ (itoaB x22.id)) ++ (⟨#[58, 32]⟩ : ByteArray)) ++ (itoaB x22.fr)) ++ (⟨#[45]⟩ : ByteArray))) (hr := (r_addS (s := (((s ++ (itoaB x22.id)) ++ (⟨#[58, 32]⟩ : ByteArray)) ++ (itoaB x22.fr))) (r := (⟨#[45]⟩ : ByteArray)) rfl (by kernel_rfl) (by kernel_rfl) (by (try simp only [ByteArray.size_append, size1, sz2, sz6]); have := itoaB_le (n := x22.fr) (by omega) (by omega); have := itoaB_le (n := x22.id) (by omega) (by omega); omega))) (h := ?_)
    refine W.sc (vs := [.int .i64 x22.to]) rfl rfl (by kernel_rfl) (by kernel_rfl) (by kernel_rfl) rfl (l1Num_any x22.to (by omega) (by omega) _) ?_
    rintro e w56 ⟨rfl, b55⟩
    have s57 := SG.of_below s54 b55
    refine ⟨_, rfl, s57, ?_⟩
    refine W.q (v := .string (((((s ++ (itoaB x22.id)) ++ (⟨#[58, 32]⟩ : ByteArray)) ++ (itoaB x22.fr)) ++ (⟨#[45]⟩ : ByteArray)) ++ (itoaB x22.to))) (hr := (r_addS (s := ((((s ++ (itoaB x22.id)) ++ (⟨#[58, 32]⟩ : ByteArray)) ++ (itoaB x22.fr)) ++ (⟨#[45]⟩ : ByteArray))) (r := (itoaB x22.to)) rfl (by kernel_rfl) (by kernel_rfl) (by (try simp only [ByteArray.size_append, size1, sz2, sz6]); have := itoaB_le (n := x22.fr) (by omega) (by omega); have := itoaB_le (n := x22.id) (by omega) (by omega); have := itoaB_le (n := x22.to) (by omega) (by omega); omega))) (h := ?_)
    refine W.q (v := .string ((((((s ++ (itoaB x22.id)) ++ (⟨#[58, 32]⟩ : ByteArray)) ++ (itoaB x22.fr)) ++ (⟨#[45]⟩ : ByteArray)) ++ (itoaB x22.to)) ++ (⟨#[32, 115, 105, 122, 101, 32]⟩ : ByteArray))) (hr := (r_addS (s := (((((s ++ (itoaB x22.id)) ++ (⟨#[58, 32]⟩ : ByteArray)) ++ (itoaB x22.fr)) ++ (⟨#[45]⟩ : ByteArray)) ++ (itoaB x22.to))) (r := (⟨#[32, 115, 105, 122, 101, 32]⟩ : ByteArray)) rfl (by kernel_rfl) (by kernel_rfl) (by (try simp only [ByteArray.size_append, size1, sz2, sz6]); have := itoaB_le (n := x22.fr) (by omega) (by omega); have := itoaB_le (n := x22.id) (by omega) (by omega); have := itoaB_le (n := x22.to) (by omega) (by omega); omega))) (h := ?_)
    refine W.sc (vs := [.int .i64 x22.sz]) rfl rfl (by kernel_rfl) (by kernel_rfl) (by kernel_rfl) rfl (l1Num_any x22.sz (by omega) (by omega) _) ?_
    rintro e w59 ⟨rfl, b58⟩
    have s60 := SG.of_below s57 b58
    refine ⟨_, rfl, s60, ?_⟩
    refine W.q (v := .string (((((((s ++ (itoaB x22.id)) ++ (⟨#[58, 32]⟩ : ByteArray)) ++ (itoaB x22.fr)) ++ (⟨#[45]⟩ : ByteArray)) ++ (itoaB x22.to)) ++ (⟨#[32, 115, 105, 122, 101, 32]⟩ : ByteArray)) ++ (itoaB x22.sz))) (hr := (r_addS (s := ((((((s ++ (itoaB x22.id)) ++ (⟨#[58, 32]⟩ : ByteArray)) ++ (itoaB x22.fr)) ++ (⟨#[45]⟩ : ByteArray)) ++ (itoaB x22.to)) ++ (⟨#[32, 115, 105, 122, 101, 32]⟩ : ByteArray))) (r := (itoaB x22.sz)) rfl (by kernel_rfl) (by kernel_rfl) (by (try simp only [ByteArray.size_append, size1, sz2, sz6]); have := itoaB_le (n := x22.fr) (by omega) (by omega); have := itoaB_le (n := x22.id) (by omega) (by omega); have := itoaB_le (n := x22.sz) (by omega) (by omega); have := itoaB_le (n := x22.to) (by omega) (by omega); omega))) (h := ?_)
    refine W.q (v := .string ((((((((s ++ (itoaB x22.id)) ++ (⟨#[58, 32]⟩ : ByteArray)) ++ (itoaB x22.fr)) ++ (⟨#[45]⟩ : ByteArray)) ++ (itoaB x22.to)) ++ (⟨#[32, 115, 105, 122, 101, 32]⟩ : ByteArray)) ++ (itoaB x22.sz)) ++ (⟨#[10]⟩ : ByteArray))) (hr := (r_addS (s := (((((((s ++ (itoaB x22.id)) ++ (⟨#[58, 32]⟩ : ByteArray)) ++ (itoaB x22.fr)) ++ (⟨#[45]⟩ : ByteArray)) ++ (itoaB x22.to)) ++ (⟨#[32, 115, 105, 122, 101, 32]⟩ : ByteArray)) ++ (itoaB x22.sz))) (r := (⟨#[10]⟩ : ByteArray)) rfl (by kernel_rfl) (by kernel_rfl) (by (try simp only [ByteArray.size_append, size1, sz2, sz6]); have := itoaB_le (n := x22.fr) (by omega) (by omega); have := itoaB_le (n := x22.id) (by omega) (by omega); have := itoaB_le (n := x22.sz) (by omega) (by omega); have := itoaB_le (n := x22.to) (by omega) (by omega); omega))) (h := ?_)
    refine W.as (v := .string ((((((((s ++ (itoaB x22.id)) ++ (⟨#[58, 32]⟩ : ByteArray)) ++ (itoaB x22.fr)) ++ (⟨#[45]⟩ : ByteArray)) ++ (itoaB x22.to)) ++ (⟨#[32, 115, 105, 122, 101, 32]⟩ : ByteArray)) ++ (itoaB x22.sz)) ++ (⟨#[10]⟩ : ByteArray))) (h := ?_)
    refine W.endF 45 [(0, .agg #[.int .i64 m, .slice A n c]), (1, .pointer (some ⟨b2, 0, none⟩)), (2, .string (⟨#[]⟩ : ByteArray)), (3, .string ((((((((s ++ (itoaB x22.id)) ++ (⟨#[58, 32]⟩ : ByteArray)) ++ (itoaB x22.fr)) ++ (⟨#[45]⟩ : ByteArray)) ++ (itoaB x22.to)) ++ (⟨#[32, 115, 105, 122, 101, 32]⟩ : ByteArray)) ++ (itoaB x22.sz)) ++ (⟨#[10]⟩ : ByteArray))), (4, .int .i64 ((k : Nat) : Int)), (5, .pointer (some ⟨b32, 0, none⟩)), (15, .bool true)] (fun U61 => ?_)
    have x6 := Sk s60 x6 (by simp)
    have x42 := Sk s60 x42 (by simp)
    have c62 := (Sb c45 s60 nkk)
    apply h8
    refine W.region_quiet [(0, false), (1, false), (2, false)] (by kernel_rfl) ?_
    refine W.mv (v := .int .i64 ((k : Nat) : Int)) (h := ?_)
    refine W.q (v := .int .i64 ((k + 1 : Nat) : Int)) (hr := (r_add (m := ((k : Nat) : Int)) (n := 1) (z := ((k + 1 : Nat) : Int)) rfl (by kernel_rfl) (by kernel_rfl) (by omega) (by omega))) (h := ?_)
    refine W.as (v := .int .i64 ((k + 1 : Nat) : Int)) (h := ?_)
    refine W.endF 45 [(0, .agg #[.int .i64 m, .slice A n c]), (1, .pointer (some ⟨b2, 0, none⟩)), (2, .string (⟨#[]⟩ : ByteArray)), (3, .string ((((((((s ++ (itoaB x22.id)) ++ (⟨#[58, 32]⟩ : ByteArray)) ++ (itoaB x22.fr)) ++ (⟨#[45]⟩ : ByteArray)) ++ (itoaB x22.to)) ++ (⟨#[32, 115, 105, 122, 101, 32]⟩ : ByteArray)) ++ (itoaB x22.sz)) ++ (⟨#[10]⟩ : ByteArray))), (4, .int .i64 ((k + 1 : Nat) : Int)), (5, .pointer (some ⟨b32, 0, none⟩)), (15, .bool true)] (fun U63 => ?_)
    exact h5 _ _ _ (by omega : (n - (k + 1)) < _) ⟨k + 1, ((((((((s ++ (itoaB x22.id)) ++ (⟨#[58, 32]⟩ : ByteArray)) ++ (itoaB x22.fr)) ++ (⟨#[45]⟩ : ByteArray)) ++ (itoaB x22.to)) ++ (⟨#[32, 115, 105, 122, 101, 32]⟩ : ByteArray)) ++ (itoaB x22.sz)) ++ (⟨#[10]⟩ : ByteArray)), (fun iU9 => lk [(0, .agg #[.int .i64 m, .slice A n c]), (1, .pointer (some ⟨b2, 0, none⟩)), (2, .string (⟨#[]⟩ : ByteArray)), (3, .string ((((((((s ++ (itoaB x22.id)) ++ (⟨#[58, 32]⟩ : ByteArray)) ++ (itoaB x22.fr)) ++ (⟨#[45]⟩ : ByteArray)) ++ (itoaB x22.to)) ++ (⟨#[32, 115, 105, 122, 101, 32]⟩ : ByteArray)) ++ (itoaB x22.sz)) ++ (⟨#[10]⟩ : ByteArray))), (4, .int .i64 ((k + 1 : Nat) : Int)), (5, .pointer (some ⟨b32, 0, none⟩)), (15, .bool true)] iU9 (U63 iU9)), (by kernel_rfl), rfl, (by omega), (by rw [textN_take hx23, hs9]; unfold lineB; simp only [ByteArray.append_assoc]), (by have h7 := hsz; (try simp only [ByteArray.size_append, size1, sz2, sz6]); have := itoaB_le (n := x22.id) (by omega) (by omega); have := itoaB_le (n := x22.fr) (by omega) (by omega); have := itoaB_le (n := x22.to) (by omega) (by omega); have := itoaB_le (n := x22.sz) (by omega) (by omega); omega), x6, c62⟩
  · refine W.q (v := .bool false) (hr := (r_lss (m := ((k : Nat) : Int)) (n := ((n : Nat) : Int)) rfl (by kernel_rfl) (by kernel_rfl) (df q19))) (h := ?_)
    refine W.endF 45 [(0, .agg #[.int .i64 m, .slice A n c]), (1, .pointer (some ⟨b2, 0, none⟩)), (2, .string (⟨#[]⟩ : ByteArray)), (3, .string s), (4, .int .i64 ((k : Nat) : Int)), (15, .bool false)] (fun U64 => ?_)
    apply h7
    refine wp_cond_false (by kernel_rfl) ?_
    refine wp_exit ?_
    apply h3
    refine wp_seq_k (fun K10 h10 => ?_)
    refine W.region_quiet [(0, false), (1, false)] (by kernel_rfl) ?_
    refine W.mv (v := .string s) (h := ?_)
    refine W.as (v := .string s) (h := ?_)
    refine W.endF 45 [(0, .agg #[.int .i64 m, .slice A n c]), (1, .pointer (some ⟨b2, 0, none⟩)), (2, .string s), (3, .string s), (4, .int .i64 ((k : Nat) : Int)), (15, .bool false)] (fun U65 => ?_)
    apply h10
    refine wp_ret ?_
    try simp only [Exit.then]
    refine ret1 (v := .string s) rfl (by kernel_rfl) ?_
    have e9 : s = textN m ps := by rw [hs9, List.take_of_length_le (by omega)]
    exact ⟨by rw [e9], c18⟩
set_option maxRecDepth 100000 in
set_option maxHeartbeats 1000000 in
theorem networkText_any (m : Int) (A : Option Addr) (n c : Nat) (ps : List Pp) (w : World) (ha : Rd w 4 A n (pipesV ps)) (hsm : smallN m ps) (htab : Lib.TabIs Tryd.prog w "internal/strconv.uint64pow10" .u64 Lib.pow10Tab) :
    Calls Tryd.prog 40 #[.agg #[.int .i64 m, .slice A n c]] w fun e w' => e = .returned (.string (textN m ps)) ∧ Below w.heap.size w w' := by
  have hl := rd_pipes_len ha
  have hm9 := hsm.1
  have hl9 := hsm.2.1
  go_enter Tryd.func40, Tryd.ntmps40
  refine wp_seq_k (fun K1 h1 => ?_)
  refine W.region_plain (row := none) [(0, true), (1, false)] (by kernel_rfl) ?_
  have s1 := SG.self w none
  refine W.sn (fun b => .pointer (some ⟨b, 0, none⟩)) #[.int .i64 m, .slice A n c] 24 s1 rfl (by kernel_rfl) rfl (fun _ => by kernel_rfl) (fun b2 w3 hb4 k5 x6 s7 => ?_)
  have lo8 : w.heap.size ≤ b2 := by have := ((Sb (Below.refl _ _) s1 nkk)).size; omega
  refine W.as (v := .string (⟨#[]⟩ : ByteArray)) (h := ?_)
  refine W.endF 41 [(0, .agg #[.int .i64 m, .slice A n c]), (1, .pointer (some ⟨b2, 0, none⟩)), (2, .string (⟨#[]⟩ : ByteArray))] (fun U9 => ?_)
  have c10 := (Sb (Below.refl _ _) s7 nkk)
  apply h1
  refine wp_seq_k (fun K2 h2 => ?_)
  refine W.region_plain (row := none) [(0, false), (1, false), (2, true), (3, false), (4, false), (5, false)] (by kernel_rfl) ?_
  have s11 := SG.self w3 none
  refine W.q (v := .pointer (some ⟨b2, 0, none⟩)) (hr := (r_field0 rfl (by kernel_rfl) (by kernel_rfl))) (h := ?_)
  refine W.ld (v := .int .i64 m) (hc := (sgS (blk_cell (j := 0) x6 (by kernel_rfl)) (by simp))) (h := ?_)
  refine W.sc (vs := [.int .i64 m]) rfl rfl (by kernel_rfl) (by kernel_rfl) (by kernel_rfl) rfl (itoa_lib m (by omega) (by omega) _ (tab_kept htab (Sb c10 s11 nkk))) ?_
  rintro e w13 ⟨rfl, b12⟩
  have s14 := SG.of_below s11 b12
  refine ⟨_, rfl, s14, ?_⟩
  refine W.q (v := .string ((⟨#[110, 111, 100, 101, 115, 32]⟩ : ByteArray) ++ (itoaB m))) (hr := (r_addS (s := (⟨#[110, 111, 100, 101, 115, 32]⟩ : ByteArray)) (r := (itoaB m)) rfl (by kernel_rfl) (by kernel_rfl) (by (try simp only [ByteArray.size_append, size1, sz2, sz6]); have := itoaB_le (n := m) (by omega) (by omega); omega))) (h := ?_)
  refine W.q (v := .string (((⟨#[110, 111, 100, 101, 115, 32]⟩ : ByteArray) ++ (itoaB m)) ++ (⟨#[10]⟩ : ByteArray))) (hr := (r_addS (s := ((⟨#[110, 111, 100, 101, 115, 32]⟩ : ByteArray) ++ (itoaB m))) (r := (⟨#[10]⟩ : ByteArray)) rfl (by kernel_rfl) (by kernel_rfl) (by (try simp only [ByteArray.size_append, size1, sz2, sz6]); have := itoaB_le (n := m) (by omega) (by omega); omega))) (h := ?_)
  refine W.as (v := .string (((⟨#[110, 111, 100, 101, 115, 32]⟩ : ByteArray) ++ (itoaB m)) ++ (⟨#[10]⟩ : ByteArray))) (h := ?_)
  refine W.endF 41 [(0, .agg #[.int .i64 m, .slice A n c]), (1, .pointer (some ⟨b2, 0, none⟩)), (2, .string (⟨#[]⟩ : ByteArray)), (3, .string (((⟨#[110, 111, 100, 101, 115, 32]⟩ : ByteArray) ++ (itoaB m)) ++ (⟨#[10]⟩ : ByteArray)))] (fun U15 => ?_)
  have x6 := Sk s14 x6 (by simp)
  have c16 := (Sb c10 s14 nkk)
  apply h2
  refine wp_seq_k (fun K3 h3 => ?_)
  refine wp_seq_k (fun K4 h4 => ?_)
  refine W.region_quiet [(0, false), (1, false), (2, false), (3, false)] (by kernel_rfl) ?_
  refine W.q (v := .pointer (some ⟨b2, 1, none⟩)) (hr := (r_field (k := 1) rfl (by kernel_rfl) (by kernel_rfl))) (h := ?_)
  refine W.ld (v := .slice A n c) (hc := (eqS (blk_cell (j := 1) x6 (by kernel_rfl)))) (h := ?_)
  refine W.q (v := .int .i64 ((n : Nat) : Int)) (hr := (r_len (A := A) (n := n) (c := c) rfl (by kernel_rfl) (by kernel_rfl))) (h := ?_)
  refine W.mv (v := .int .i64 0) (h := ?_)
  refine W.endF 41 [(0, .agg #[.int .i64 m, .slice A n c]), (1, .pointer (some ⟨b2, 0, none⟩)), (2, .string (⟨#[]⟩ : ByteArray)), (3, .string (((⟨#[110, 111, 100, 101, 115, 32]⟩ : ByteArray) ++ (itoaB m)) ++ (⟨#[10]⟩ : ByteArray))), (12, .slice A n c), (13, .int .i64 ((n : Nat) : Int)), (14, .int .i64 0)] (fun U17 => ?_)
  apply h4
  refine wp_block ?_
  refine loopK (fun am0 aa0 wl0 => ∃ (k : Nat) (s : ByteArray) (U0 : Nat → Value), aa0 = ⟨(fr U0 [(0, .agg #[.int .i64 m, .slice A n c]), (1, .pointer (some ⟨b2, 0, none⟩)), (2, .string (⟨#[]⟩ : ByteArray)), (3, .string s), (12, .slice A n c), (13, .int .i64 ((n : Nat) : Int)), (14, .int .i64 ((k : Nat) : Int))] 41 0).toArray, []⟩ ∧ (am0 = n - k) ∧ (k ≤ n) ∧ (s = textN m (ps.take k)) ∧ (s.size ≤ 100 + 200 * k) ∧ (wl0.heap[b2]? = some (.cells #[.int .i64 m, .slice A n c] 24 (0, 0))) ∧ (Below w.heap.size w wl0)) (n - 0) ?_ ?_
  · exact ⟨0, (((⟨#[110, 111, 100, 101, 115, 32]⟩ : ByteArray) ++ (itoaB m)) ++ (⟨#[10]⟩ : ByteArray)), (fun iU9 => lk [(0, .agg #[.int .i64 m, .slice A n c]), (1, .pointer (some ⟨b2, 0, none⟩)), (2, .string (⟨#[]⟩ : ByteArray)), (3, .string (((⟨#[110, 111, 100, 101, 115, 32]⟩ : ByteArray) ++ (itoaB m)) ++ (⟨#[10]⟩ : ByteArray))), (12, .slice A n c), (13, .int .i64 ((n : Nat) : Int)), (14, .int .i64 0)] iU9 (U17 iU9)), (by kernel_rfl), rfl, (Nat.zero_le _), rfl, (by (try simp only [ByteArray.size_append, size1, sz2, sz6]); have := itoaB_le (n := m) (by omega) (by omega); omega), x6, c16⟩
  rintro am0 aa0 wl0 K5 h5 ⟨k, s, U0, rfl, rfl, hk, hs9, hsz, x6, c18⟩
  refine wp_seq_k (fun K6 h6 => ?_)
  refine W.region_quiet [(0, false)] (by kernel_rfl) ?_
  by_cases q19 : (((k : Nat) : Int) : Int) < (((n : Nat) : Int) : Int)
  · refine W.q (v := .bool true) (hr := (r_lss (m := ((k : Nat) : Int)) (n := ((n : Nat) : Int)) rfl (by kernel_rfl) (by kernel_rfl) (dt q19))) (h := ?_)
    refine W.endF 41 [(0, .agg #[.int .i64 m, .slice A n c]), (1, .pointer (some ⟨b2, 0, none⟩)), (2, .string (⟨#[]⟩ : ByteArray)), (3, .string s), (12, .slice A n c), (13, .int .i64 ((n : Nat) : Int)), (14, .int .i64 ((k : Nat) : Int)), (15, .bool true)] (fun U20 => ?_)
    apply h6
    refine wp_seq_k (fun K7 h7 => ?_)
    refine wp_cond_true (by kernel_rfl) ?_
    apply wp_skip
    apply h7
    refine wp_seq_k (fun K8 h8 => ?_)
    refine wp_block ?_
    refine wp_seq_k (fun K9 h9 => ?_)
    refine W.region_plain (row := none) [(0, false), (1, false), (2, true), (3, true)] (by kernel_rfl) ?_
    have s21 := SG.self wl0 none
    obtain ⟨x22, hx23⟩ := get_of (zs := ps) (k := k) (by have := hl; omega)
    have hpb := hsm.2.2 _ (List.mem_of_getElem? hx23)
    obtain ⟨b24, o25, hA26, hb27, hc28, hc29, hc30, hc31⟩ := Rd.elPipe ha hx23
    refine W.q (v := .pointer (some ⟨b24, o25 + k * 4, none⟩)) (hr := (r_idx (n := n) (c := c) (k := k) rfl (by kernel_rfl) hA26 (by kernel_rfl) (by kernel_rfl) (by have := hl; omega))) (h := ?_)
    refine W.q (v := .agg #[.int .i64 x22.id, .int .i64 x22.fr, .int .i64 x22.to, .int .i64 x22.sz]) (hr := (r_load4 rfl (by kernel_rfl) (by kernel_rfl) (by kernel_rfl) (sgS (later c18 hc28) (by simp)) (sgS (later c18 hc29) (by simp)) (sgS (later c18 hc30) (by simp)) (sgS (later c18 hc31) (by simp)))) (h := ?_)
    refine W.sn (fun b => .pointer (some ⟨b, 0, none⟩)) #[.int .i64 0, .int .i64 0, .int .i64 0, .int .i64 0] 38 s21 rfl (by kernel_rfl) rfl (fun _ => by kernel_rfl) (fun b32 w33 hb34 k35 x36 s37 => ?_)
    have lo38 : w.heap.size ≤ b32 := by have := ((Sb c18 s21 nkk)).size; omega
    have ne39 : b2 ≠ b32 := by have := blk_lt x6; have := (s21).size; omega
    refine W.ss (v := .agg #[.int .i64 x22.id, .int .i64 x22.fr, .int .i64 x22.to, .int .i64 x22.sz]) (j := 0) (news := [.int .i64 x22.id, .int .i64 x22.fr, .int .i64 x22.to, .int .i64 x22.sz]) (cs' := #[.int .i64 x22.id, .int .i64 x22.fr, .int .i64 x22.to, .int .i64 x22.sz]) s37 rfl (by kernel_rfl) rfl rfl (by kernel_rfl) (by kernel_rfl) x36 (by kernel_rfl) (by kernel_rfl) (by simp) (by kernel_rfl) (by kernel_rfl) (.inr (by have := (s21).size; have := hb34; omega)) (fun w40 g41 x42 s43 => ?_)
    refine W.endF 41 [(0, .agg #[.int .i64 m, .slice A n c]), (1, .pointer (some ⟨b2, 0, none⟩)), (2, .string (⟨#[]⟩ : ByteArray)), (3, .string s), (5, .pointer (some ⟨b32, 0, none⟩)), (12, .slice A n c), (13, .int .i64 ((n : Nat) : Int)), (14, .int .i64 ((k : Nat) : Int)), (15, .bool true)] (fun U44 => ?_)
    have x6 := Sk s43 x6 (by simp)
    have c45 := (Sb c18 s43 nkk)
    apply h9
    refine W.region_sch (row := none) (Sch.of [(0, false), (1, false), (2, false), (5, false), (6, false), (10, false), (11, false), (15, false), (16, false), (3, true), (4, false), (7, true), (8, false), (9, false), (12, true), (13, false), (14, false), (17, true), (18, false), (19, false), (20, false), (21, false)]) (by kernel_rfl) (by kernel_rfl) (fun _ d _ _ _ h => by cases d <;> exact h) (by kernel_rfl) (fun w46 e47 s48 => ?_)
    refine W.mv (v := .string s) (h := ?_)
    refine W.q (v := .pointer (some ⟨b32, 0, none⟩)) (hr := (r_field0 rfl (by kernel_rfl) (by kernel_rfl))) (h := ?_)
    refine W.ld (v := .int .i64 x22.id) (hc := (sgS (blk_cell (j := 0) x42 (by kernel_rfl)) (by simp))) (h := ?_)
    refine W.q (v := .pointer (some ⟨b32, 1, none⟩)) (hr := (r_field (k := 1) rfl (by kernel_rfl) (by kernel_rfl))) (h := ?_)
    refine W.ld (v := .int .i64 x22.fr) (hc := (sgS (blk_cell (j := 1) x42 (by kernel_rfl)) (by simp))) (h := ?_)
    refine W.q (v := .pointer (some ⟨b32, 2, none⟩)) (hr := (r_field (k := 2) rfl (by kernel_rfl) (by kernel_rfl))) (h := ?_)
    refine W.ld (v := .int .i64 x22.to) (hc := (sgS (blk_cell (j := 2) x42 (by kernel_rfl)) (by simp))) (h := ?_)
    refine W.q (v := .pointer (some ⟨b32, 3, none⟩)) (hr := (r_field (k := 3) rfl (by kernel_rfl) (by kernel_rfl))) (h := ?_)
    refine W.ld (v := .int .i64 x22.sz) (hc := (sgS (blk_cell (j := 3) x42 (by kernel_rfl)) (by simp))) (h := ?_)
    refine W.sc (vs := [.int .i64 x22.id]) rfl rfl (by kernel_rfl) (by kernel_rfl) (by kernel_rfl) rfl (itoa_lib x22.id (by omega) (by omega) _ (tab_kept htab (Sb c45 s48 nkk))) ?_
    rintro e w50 ⟨rfl, b49⟩
    have s51 := SG.of_below s48 b49
    refine ⟨_, rfl, s51, ?_⟩
    refine W.q (v := .string ((itoaB x22.id) ++ (⟨#[58, 32]⟩ : ByteArray))) (hr := (r_addS (s := (itoaB x22.id)) (r := (⟨#[58, 32]⟩ : ByteArray)) rfl (by kernel_rfl) (by kernel_rfl) (by (try simp only [ByteArray.size_append, size1, sz2, sz6]); have := itoaB_le (n := x22.id) (by omega) (by omega); omega))) (h := ?_)
    refine W.sc (vs := [.int .i64 x22.fr]) rfl rfl (by kernel_rfl) (by kernel_rfl) (by kernel_rfl) rfl (itoa_lib x22.fr (by omega) (by omega) _ (tab_kept htab (Sb c45 s51 nkk))) ?_
    rintro e w53 ⟨rfl, b52⟩
    have s54 := SG.of_below s51 b52
    refine ⟨_, rfl, s54, ?_⟩
    refine W.q (v := .string (((itoaB x22.id) ++ (⟨#[58, 32]⟩ : ByteArray)) ++ (itoaB x22.fr))) (hr := (r_addS (s := ((itoaB x22.id) ++ (⟨#[58, 32]⟩ : ByteArray))) (r := (itoaB x22.fr)) rfl (by kernel_rfl) (by kernel_rfl) (by (try simp only [ByteArray.size_append, size1, sz2, sz6]); have := itoaB_le (n := x22.fr) (by omega) (by omega); have := itoaB_le (n := x22.id) (by omega) (by omega); omega))) (h := ?_)
    refine W.q (v := .string ((((itoaB x22.id) ++ (⟨#[58, 32]⟩ : ByteArray)) ++ (itoaB x22.fr)) ++ (⟨#[45]⟩ : ByteArray))) (hr := (r_addS (s := (((itoaB x22.id) ++ (⟨#[58, 32]⟩ : ByteArray)) ++ (itoaB x22.fr))) (r := (⟨#[45]⟩ : ByteArray)) rfl (by kernel_rfl) (by kernel_rfl) (by (try simp only [ByteArray.size_append, size1, sz2, sz6]); have := itoaB_le (n := x22.fr) (by omega) (by omega); have := itoaB_le (n := x22.id) (by omega) (by omega); omega))) (h := ?_)
    refine W.sc (vs := [.int .i64 x22.to]) rfl rfl (by kernel_rfl) (by kernel_rfl) (by kernel_rfl) rfl (itoa_lib x22.to (by omega) (by omega) _ (tab_kept htab (Sb c45 s54 nkk))) ?_
    rintro e w56 ⟨rfl, b55⟩
    have s57 := SG.of_below s54 b55
    refine ⟨_, rfl, s57, ?_⟩
    refine W.q (v := .string (((((itoaB x22.id) ++ (⟨#[58, 32]⟩ : ByteArray)) ++ (itoaB x22.fr)) ++ (⟨#[45]⟩ : ByteArray)) ++ (itoaB x22.to))) (hr := (r_addS (s := ((((itoaB x22.id) ++ (⟨#[58, 32]⟩ : ByteArray)) ++ (itoaB x22.fr)) ++ (⟨#[45]⟩ : ByteArray))) (r := (itoaB x22.to)) rfl (by kernel_rfl) (by kernel_rfl) (by (try simp only [ByteArray.size_append, size1, sz2, sz6]); have := itoaB_le (n := x22.fr) (by omega) (by omega); have := itoaB_le (n := x22.id) (by omega) (by omega); have := itoaB_le (n := x22.to) (by omega) (by omega); omega))) (h := ?_)
    refine W.q (v := .string ((((((itoaB x22.id) ++ (⟨#[58, 32]⟩ : ByteArray)) ++ (itoaB x22.fr)) ++ (⟨#[45]⟩ : ByteArray)) ++ (itoaB x22.to)) ++ (⟨#[32, 115, 105, 122, 101, 32]⟩ : ByteArray))) (hr := (r_addS (s := (((((itoaB x22.id) ++ (⟨#[58, 32]⟩ : ByteArray)) ++ (itoaB x22.fr)) ++ (⟨#[45]⟩ : ByteArray)) ++ (itoaB x22.to))) (r := (⟨#[32, 115, 105, 122, 101, 32]⟩ : ByteArray)) rfl (by kernel_rfl) (by kernel_rfl) (by (try simp only [ByteArray.size_append, size1, sz2, sz6]); have := itoaB_le (n := x22.fr) (by omega) (by omega); have := itoaB_le (n := x22.id) (by omega) (by omega); have := itoaB_le (n := x22.to) (by omega) (by omega); omega))) (h := ?_)
    refine W.sc (vs := [.int .i64 x22.sz]) rfl rfl (by kernel_rfl) (by kernel_rfl) (by kernel_rfl) rfl (itoa_lib x22.sz (by omega) (by omega) _ (tab_kept htab (Sb c45 s57 nkk))) ?_
    rintro e w59 ⟨rfl, b58⟩
    have s60 := SG.of_below s57 b58
    refine ⟨_, rfl, s60, ?_⟩
    refine W.q (v := .string (((((((itoaB x22.id) ++ (⟨#[58, 32]⟩ : ByteArray)) ++ (itoaB x22.fr)) ++ (⟨#[45]⟩ : ByteArray)) ++ (itoaB x22.to)) ++ (⟨#[32, 115, 105, 122, 101, 32]⟩ : ByteArray)) ++ (itoaB x22.sz))) (hr := (r_addS (s := ((((((itoaB x22.id) ++ (⟨#[58, 32]⟩ : ByteArray)) ++ (itoaB x22.fr)) ++ (⟨#[45]⟩ : ByteArray)) ++ (itoaB x22.to)) ++ (⟨#[32, 115, 105, 122, 101, 32]⟩ : ByteArray))) (r := (itoaB x22.sz)) rfl (by kernel_rfl) (by kernel_rfl) (by (try simp only [ByteArray.size_append, size1, sz2, sz6]); have := itoaB_le (n := x22.fr) (by omega) (by omega); have := itoaB_le (n := x22.id) (by omega) (by omega); have := itoaB_le (n := x22.sz) (by omega) (by omega); have := itoaB_le (n := x22.to) (by omega) (by omega); omega))) (h := ?_)
    refine W.q (v := .string ((((((((itoaB x22.id) ++ (⟨#[58, 32]⟩ : ByteArray)) ++ (itoaB x22.fr)) ++ (⟨#[45]⟩ : ByteArray)) ++ (itoaB x22.to)) ++ (⟨#[32, 115, 105, 122, 101, 32]⟩ : ByteArray)) ++ (itoaB x22.sz)) ++ (⟨#[10]⟩ : ByteArray))) (hr := (r_addS (s := (((((((itoaB x22.id) ++ (⟨#[58, 32]⟩ : ByteArray)) ++ (itoaB x22.fr)) ++ (⟨#[45]⟩ : ByteArray)) ++ (itoaB x22.to)) ++ (⟨#[32, 115, 105, 122, 101, 32]⟩ : ByteArray)) ++ (itoaB x22.sz))) (r := (⟨#[10]⟩ : ByteArray)) rfl (by kernel_rfl) (by kernel_rfl) (by (try simp only [ByteArray.size_append, size1, sz2, sz6]); have := itoaB_le (n := x22.fr) (by omega) (by omega); have := itoaB_le (n := x22.id) (by omega) (by omega); have := itoaB_le (n := x22.sz) (by omega) (by omega); have := itoaB_le (n := x22.to) (by omega) (by omega); omega))) (h := ?_)
    refine W.q (v := .string (s ++ ((((((((itoaB x22.id) ++ (⟨#[58, 32]⟩ : ByteArray)) ++ (itoaB x22.fr)) ++ (⟨#[45]⟩ : ByteArray)) ++ (itoaB x22.to)) ++ (⟨#[32, 115, 105, 122, 101, 32]⟩ : ByteArray)) ++ (itoaB x22.sz)) ++ (⟨#[10]⟩ : ByteArray)))) (hr := (r_addS (s := s) (r := ((((((((itoaB x22.id) ++ (⟨#[58, 32]⟩ : ByteArray)) ++ (itoaB x22.fr)) ++ (⟨#[45]⟩ : ByteArray)) ++ (itoaB x22.to)) ++ (⟨#[32, 115, 105, 122, 101, 32]⟩ : ByteArray)) ++ (itoaB x22.sz)) ++ (⟨#[10]⟩ : ByteArray))) rfl (by kernel_rfl) (by kernel_rfl) (by (try simp only [ByteArray.size_append, size1, sz2, sz6]); have := itoaB_le (n := x22.fr) (by omega) (by omega); have := itoaB_le (n := x22.id) (by omega) (by omega); have := itoaB_le (n := x22.sz) (by omega) (by omega); have := itoaB_le (n := x22.to) (by omega) (by omega); omega))) (h := ?_)
    refine W.as (v := .string (s ++ ((((((((itoaB x22.id) ++ (⟨#[58, 32]⟩ : ByteArray)) ++ (itoaB x22.fr)) ++ (⟨#[45]⟩ : ByteArray)) ++ (itoaB x22.to)) ++ (⟨#[32, 115, 105, 122, 101, 32]⟩ : ByteArray)) ++ (itoaB x22.sz)) ++ (⟨#[10]⟩ : ByteArray)))) (h := ?_)
    refine W.endF 41 [(0, .agg #[.int .i64 m, .slice A n c]), (1, .pointer (some ⟨b2, 0, none⟩)), (2, .string (⟨#[]⟩ : ByteArray)), (3, .string (s ++ ((((((((itoaB x22.id) ++ (⟨#[58, 32]⟩ : ByteArray)) ++ (itoaB x22.fr)) ++ (⟨#[45]⟩ : ByteArray)) ++ (itoaB x22.to)) ++ (⟨#[32, 115, 105, 122, 101, 32]⟩ : ByteArray)) ++ (itoaB x22.sz)) ++ (⟨#[10]⟩ : ByteArray)))), (5, .pointer (some ⟨b32, 0, none⟩)), (12, .slice A n c), (13, .int .i64 ((n : Nat) : Int)), (14, .int .i64 ((k : Nat) : Int)), (15, .bool true)] (fun U61 => ?_)
    have x6 := Sk s60 x6 (by simp)
    have x42 := Sk s60 x42 (by simp)
    have c62 := (Sb c45 s60 nkk)
    apply h8
    refine W.region_quiet [(0, false), (1, false)] (by kernel_rfl) ?_
    refine W.q (v := .int .i64 ((k + 1 : Nat) : Int)) (hr := (r_add (m := ((k : Nat) : Int)) (n := 1) (z := ((k + 1 : Nat) : Int)) rfl (by kernel_rfl) (by kernel_rfl) (by omega) (by omega))) (h := ?_)
    refine W.mv (v := .int .i64 ((k + 1 : Nat) : Int)) (h := ?_)
    refine W.endF 41 [(0, .agg #[.int .i64 m, .slice A n c]), (1, .pointer (some ⟨b2, 0, none⟩)), (2, .string (⟨#[]⟩ : ByteArray)), (3, .string (s ++ ((((((((itoaB x22.id) ++ (⟨#[58, 32]⟩ : ByteArray)) ++ (itoaB x22.fr)) ++ (⟨#[45]⟩ : ByteArray)) ++ (itoaB x22.to)) ++ (⟨#[32, 115, 105, 122, 101, 32]⟩ : ByteArray)) ++ (itoaB x22.sz)) ++ (⟨#[10]⟩ : ByteArray)))), (5, .pointer (some ⟨b32, 0, none⟩)), (12, .slice A n c), (13, .int .i64 ((n : Nat) : Int)), (14, .int .i64 ((k + 1 : Nat) : Int)), (15, .bool true)] (fun U63 => ?_)
    exact h5 _ _ _ (by omega : (n - (k + 1)) < _) ⟨k + 1, (s ++ ((((((((itoaB x22.id) ++ (⟨#[58, 32]⟩ : ByteArray)) ++ (itoaB x22.fr)) ++ (⟨#[45]⟩ : ByteArray)) ++ (itoaB x22.to)) ++ (⟨#[32, 115, 105, 122, 101, 32]⟩ : ByteArray)) ++ (itoaB x22.sz)) ++ (⟨#[10]⟩ : ByteArray))), (fun iU9 => lk [(0, .agg #[.int .i64 m, .slice A n c]), (1, .pointer (some ⟨b2, 0, none⟩)), (2, .string (⟨#[]⟩ : ByteArray)), (3, .string (s ++ ((((((((itoaB x22.id) ++ (⟨#[58, 32]⟩ : ByteArray)) ++ (itoaB x22.fr)) ++ (⟨#[45]⟩ : ByteArray)) ++ (itoaB x22.to)) ++ (⟨#[32, 115, 105, 122, 101, 32]⟩ : ByteArray)) ++ (itoaB x22.sz)) ++ (⟨#[10]⟩ : ByteArray)))), (5, .pointer (some ⟨b32, 0, none⟩)), (12, .slice A n c), (13, .int .i64 ((n : Nat) : Int)), (14, .int .i64 ((k + 1 : Nat) : Int)), (15, .bool true)] iU9 (U63 iU9)), (by kernel_rfl), rfl, (by omega), (by rw [textN_take hx23, hs9]; unfold lineB; simp only [ByteArray.append_assoc]), (by have h7 := hsz; (try simp only [ByteArray.size_append, size1, sz2, sz6]); have := itoaB_le (n := x22.id) (by omega) (by omega); have := itoaB_le (n := x22.fr) (by omega) (by omega); have := itoaB_le (n := x22.to) (by omega) (by omega); have := itoaB_le (n := x22.sz) (by omega) (by omega); omega), x6, c62⟩
  · refine W.q (v := .bool false) (hr := (r_lss (m := ((k : Nat) : Int)) (n := ((n : Nat) : Int)) rfl (by kernel_rfl) (by kernel_rfl) (df q19))) (h := ?_)
    refine W.endF 41 [(0, .agg #[.int .i64 m, .slice A n c]), (1, .pointer (some ⟨b2, 0, none⟩)), (2, .string (⟨#[]⟩ : ByteArray)), (3, .string s), (12, .slice A n c), (13, .int .i64 ((n : Nat) : Int)), (14, .int .i64 ((k : Nat) : Int)), (15, .bool false)] (fun U64 => ?_)
    apply h6
    refine wp_seq_k (fun K10 h10 => ?_)
    refine wp_cond_false (by kernel_rfl) ?_
    refine wp_exit ?_
    apply h3
    refine wp_seq_k (fun K11 h11 => ?_)
    refine W.region_quiet [(0, false), (1, false)] (by kernel_rfl) ?_
    refine W.mv (v := .string s) (h := ?_)
    refine W.as (v := .string s) (h := ?_)
    refine W.endF 41 [(0, .agg #[.int .i64 m, .slice A n c]), (1, .pointer (some ⟨b2, 0, none⟩)), (2, .string s), (3, .string s), (12, .slice A n c), (13, .int .i64 ((n : Nat) : Int)), (14, .int .i64 ((k : Nat) : Int)), (15, .bool false)] (fun U65 => ?_)
    apply h11
    refine wp_ret ?_
    try simp only [Exit.then]
    refine ret1 (v := .string s) rfl (by kernel_rfl) ?_
    have e9 : s = textN m ps := by rw [hs9, List.take_of_length_le (by omega)]
    exact ⟨by rw [e9], c18⟩
set_option maxRecDepth 100000 in
set_option maxHeartbeats 1000000 in
theorem NetworkText_spec (m : Int) (A : Option Addr) (n c : Nat) (ps : List Pp) (w : World) (ha : Rd w 4 A n (pipesV ps)) (hn : n ≤ 1048576) :
    Calls Tryd.prog 14 #[.agg #[.int .i64 m, .slice A n c]] w fun e w' => e = .returned (.tuple #[.string (NetworkText_v0 m ps), .bool (NetworkText_v1 m ps)]) ∧ Below w.heap.size w w' := by
  have hl := rd_pipes_len ha
  go_enter Tryd.func14, Tryd.ntmps14
  refine wp_seq_k (fun K1 h1 => ?_)
  refine W.region_plain (row := none) [(0, true), (1, false), (2, false)] (by kernel_rfl) ?_
  have s1 := SG.self w none
  refine W.sn (fun b => .pointer (some ⟨b, 0, none⟩)) #[.int .i64 m, .slice A n c] 24 s1 rfl (by kernel_rfl) rfl (fun _ => by kernel_rfl) (fun b2 w3 hb4 k5 x6 s7 => ?_)
  have lo8 : w.heap.size ≤ b2 := by have := ((Sb (Below.refl _ _) s1 nkk)).size; omega
  refine W.as (v := .string (⟨#[]⟩ : ByteArray)) (h := ?_)
  refine W.as (v := .bool false) (h := ?_)
  refine W.endF 9 [(0, .agg #[.int .i64 m, .slice A n c]), (1, .pointer (some ⟨b2, 0, none⟩)), (2, .string (⟨#[]⟩ : ByteArray)), (3, .bool false)] (fun U9 => ?_)
  have c10 := (Sb (Below.refl _ _) s7 nkk)
  apply h1
  refine wp_seq_k (fun K2 h2 => ?_)
  refine wp_seq_k (fun K3 h3 => ?_)
  refine W.region_plain (row := none) [(0, false), (1, true), (2, false)] (by kernel_rfl) ?_
  have s11 := SG.self w3 none
  refine W.q (v := .agg #[.int .i64 m, .slice A n c]) (hr := (r_load2 rfl (by kernel_rfl) (by kernel_rfl) (by kernel_rfl) (sgS (blk_cell (j := 0) x6 (by kernel_rfl)) (by simp)) (sgS (blk_cell (j := 1) x6 (by kernel_rfl)) (by simp)))) (h := ?_)
  refine W.sc (vs := [.agg #[.int .i64 m, .slice A n c]]) rfl rfl (by kernel_rfl) (by kernel_rfl) (by kernel_rfl) rfl (l2Good_any m A n c ps _ (Rk ha (Sb c10 s11 nkk)) (by omega)) ?_
  rintro e w13 ⟨rfl, b12⟩
  have s14 := SG.of_below s11 b12
  refine ⟨_, rfl, s14, ?_⟩
  rcases Bool.eq_false_or_eq_true (goodN m ps) with q15 | q15
  · rw [q15]
    refine W.q (v := .bool false) (hr := (r_not (b := true) rfl (by kernel_rfl) rfl)) (h := ?_)
    refine W.endF 9 [(0, .agg #[.int .i64 m, .slice A n c]), (1, .pointer (some ⟨b2, 0, none⟩)), (2, .string (⟨#[]⟩ : ByteArray)), (3, .bool false), (6, .bool false)] (fun U16 => ?_)
    have x6 := Sk s14 x6 (by simp)
    have c17 := (Sb c10 s14 nkk)
    apply h3
    refine wp_cond_false (by kernel_rfl) ?_
    apply wp_skip
    apply h2
    refine wp_seq_k (fun K4 h4 => ?_)
    refine W.region_plain (row := none) [(0, false), (1, true), (2, false), (3, false)] (by kernel_rfl) ?_
    have s18 := SG.self w13 none
    refine W.q (v := .agg #[.int .i64 m, .slice A n c]) (hr := (r_load2 rfl (by kernel_rfl) (by kernel_rfl) (by kernel_rfl) (sgS (blk_cell (j := 0) x6 (by kernel_rfl)) (by simp)) (sgS (blk_cell (j := 1) x6 (by kernel_rfl)) (by simp)))) (h := ?_)
    have hsm := good_small q15
    refine W.sc (vs := [.agg #[.int .i64 m, .slice A n c]]) rfl rfl (by kernel_rfl) (by kernel_rfl) (by kernel_rfl) rfl (l2Text_any m A n c ps _ (Rk ha (Sb c17 s18 nkk)) hsm) ?_
    rintro e w20 ⟨rfl, b19⟩
    have s21 := SG.of_below s18 b19
    refine ⟨_, rfl, s21, ?_⟩
    refine W.as (v := .string (textN m ps)) (h := ?_)
    refine W.as (v := .bool true) (h := ?_)
    refine W.endF 9 [(0, .agg #[.int .i64 m, .slice A n c]), (1, .pointer (some ⟨b2, 0, none⟩)), (2, .string (textN m ps)), (3, .bool true), (6, .bool false)] (fun U22 => ?_)
    have x6 := Sk s21 x6 (by simp)
    have c23 := (Sb c17 s21 nkk)
    apply h4
    refine wp_ret ?_
    try simp only [Exit.then]
    refine ret2 (v := .string (textN m ps)) (x := .bool true) rfl (by kernel_rfl) (by kernel_rfl) ?_
    obtain ⟨e1, e2⟩ := nt_yes q15
    exact ⟨by rw [e1, e2], c23⟩
  · rw [q15]
    refine W.q (v := .bool true) (hr := (r_not (b := false) rfl (by kernel_rfl) rfl)) (h := ?_)
    refine W.endF 9 [(0, .agg #[.int .i64 m, .slice A n c]), (1, .pointer (some ⟨b2, 0, none⟩)), (2, .string (⟨#[]⟩ : ByteArray)), (3, .bool false), (6, .bool true)] (fun U24 => ?_)
    have x6 := Sk s14 x6 (by simp)
    have c25 := (Sb c10 s14 nkk)
    apply h3
    refine wp_cond_true (by kernel_rfl) ?_
    refine wp_seq_k (fun K5 h5 => ?_)
    refine W.region_quiet [(0, false), (1, false)] (by kernel_rfl) ?_
    refine W.as (v := .string (⟨#[]⟩ : ByteArray)) (h := ?_)
    refine W.as (v := .bool false) (h := ?_)
    refine W.endF 9 [(0, .agg #[.int .i64 m, .slice A n c]), (1, .pointer (some ⟨b2, 0, none⟩)), (2, .string (⟨#[]⟩ : ByteArray)), (3, .bool false), (6, .bool true)] (fun U26 => ?_)
    apply h5
    refine wp_ret ?_
    try simp only [Exit.then]
    refine ret2 (v := .string (⟨#[]⟩ : ByteArray)) (x := .bool false) rfl (by kernel_rfl) (by kernel_rfl) ?_
    obtain ⟨e1, e2⟩ := nt_no q15
    exact ⟨by rw [e1, e2], c25⟩
set_option maxRecDepth 100000 in
set_option maxHeartbeats 1000000 in
theorem NetworkText_impl (m : Int) (A : Option Addr) (n c : Nat) (ps : List Pp) (w : World) (ha : Rd w 4 A n (pipesV ps)) (hn : n ≤ 1048576) (htab : Lib.TabIs Tryd.prog w "internal/strconv.uint64pow10" .u64 Lib.pow10Tab) :
    Calls Tryd.prog 13 #[.agg #[.int .i64 m, .slice A n c]] w fun e w' => e = .returned (.tuple #[.string (NetworkText_v0 m ps), .bool (NetworkText_v1 m ps)]) ∧ Below w.heap.size w w' := by
  have hl := rd_pipes_len ha
  go_enter Tryd.func13, Tryd.ntmps13
  refine wp_seq_k (fun K1 h1 => ?_)
  refine W.region_plain (row := none) [(0, true), (1, false), (2, false)] (by kernel_rfl) ?_
  have s1 := SG.self w none
  refine W.sn (fun b => .pointer (some ⟨b, 0, none⟩)) #[.int .i64 m, .slice A n c] 24 s1 rfl (by kernel_rfl) rfl (fun _ => by kernel_rfl) (fun b2 w3 hb4 k5 x6 s7 => ?_)
  have lo8 : w.heap.size ≤ b2 := by have := ((Sb (Below.refl _ _) s1 nkk)).size; omega
  refine W.as (v := .string (⟨#[]⟩ : ByteArray)) (h := ?_)
  refine W.as (v := .bool false) (h := ?_)
  refine W.endF 9 [(0, .agg #[.int .i64 m, .slice A n c]), (1, .pointer (some ⟨b2, 0, none⟩)), (2, .string (⟨#[]⟩ : ByteArray)), (3, .bool false)] (fun U9 => ?_)
  have c10 := (Sb (Below.refl _ _) s7 nkk)
  apply h1
  refine wp_seq_k (fun K2 h2 => ?_)
  refine wp_seq_k (fun K3 h3 => ?_)
  refine W.region_plain (row := none) [(0, false), (1, true), (2, false)] (by kernel_rfl) ?_
  have s11 := SG.self w3 none
  refine W.q (v := .agg #[.int .i64 m, .slice A n c]) (hr := (r_load2 rfl (by kernel_rfl) (by kernel_rfl) (by kernel_rfl) (sgS (blk_cell (j := 0) x6 (by kernel_rfl)) (by simp)) (sgS (blk_cell (j := 1) x6 (by kernel_rfl)) (by simp)))) (h := ?_)
  refine W.sc (vs := [.agg #[.int .i64 m, .slice A n c]]) rfl rfl (by kernel_rfl) (by kernel_rfl) (by kernel_rfl) rfl (IsValid_any m A n c ps _ (Rk ha (Sb c10 s11 nkk)) (by omega)) ?_
  rintro e w13 ⟨rfl, b12⟩
  have s14 := SG.of_below s11 b12
  refine ⟨_, rfl, s14, ?_⟩
  rcases Bool.eq_false_or_eq_true (goodN m ps) with q15 | q15
  · rw [q15]
    refine W.q (v := .bool false) (hr := (r_not (b := true) rfl (by kernel_rfl) rfl)) (h := ?_)
    refine W.endF 9 [(0, .agg #[.int .i64 m, .slice A n c]), (1, .pointer (some ⟨b2, 0, none⟩)), (2, .string (⟨#[]⟩ : ByteArray)), (3, .bool false), (6, .bool false)] (fun U16 => ?_)
    have x6 := Sk s14 x6 (by simp)
    have c17 := (Sb c10 s14 nkk)
    apply h3
    refine wp_cond_false (by kernel_rfl) ?_
    apply wp_skip
    apply h2
    refine wp_seq_k (fun K4 h4 => ?_)
    refine W.region_plain (row := none) [(0, false), (1, true), (2, false), (3, false)] (by kernel_rfl) ?_
    have s18 := SG.self w13 none
    refine W.q (v := .agg #[.int .i64 m, .slice A n c]) (hr := (r_load2 rfl (by kernel_rfl) (by kernel_rfl) (by kernel_rfl) (sgS (blk_cell (j := 0) x6 (by kernel_rfl)) (by simp)) (sgS (blk_cell (j := 1) x6 (by kernel_rfl)) (by simp)))) (h := ?_)
    have hsm := good_small q15
    refine W.sc (vs := [.agg #[.int .i64 m, .slice A n c]]) rfl rfl (by kernel_rfl) (by kernel_rfl) (by kernel_rfl) rfl (networkText_any m A n c ps _ (Rk ha (Sb c17 s18 nkk)) hsm (tab_kept htab (Sb c17 s18 nkk))) ?_
    rintro e w20 ⟨rfl, b19⟩
    have s21 := SG.of_below s18 b19
    refine ⟨_, rfl, s21, ?_⟩
    refine W.as (v := .string (textN m ps)) (h := ?_)
    refine W.as (v := .bool true) (h := ?_)
    refine W.endF 9 [(0, .agg #[.int .i64 m, .slice A n c]), (1, .pointer (some ⟨b2, 0, none⟩)), (2, .string (textN m ps)), (3, .bool true), (6, .bool false)] (fun U22 => ?_)
    have x6 := Sk s21 x6 (by simp)
    have c23 := (Sb c17 s21 nkk)
    apply h4
    refine wp_ret ?_
    try simp only [Exit.then]
    refine ret2 (v := .string (textN m ps)) (x := .bool true) rfl (by kernel_rfl) (by kernel_rfl) ?_
    obtain ⟨e1, e2⟩ := nt_yes q15
    exact ⟨by rw [e1, e2], c23⟩
  · rw [q15]
    refine W.q (v := .bool true) (hr := (r_not (b := false) rfl (by kernel_rfl) rfl)) (h := ?_)
    refine W.endF 9 [(0, .agg #[.int .i64 m, .slice A n c]), (1, .pointer (some ⟨b2, 0, none⟩)), (2, .string (⟨#[]⟩ : ByteArray)), (3, .bool false), (6, .bool true)] (fun U24 => ?_)
    have x6 := Sk s14 x6 (by simp)
    have c25 := (Sb c10 s14 nkk)
    apply h3
    refine wp_cond_true (by kernel_rfl) ?_
    refine wp_seq_k (fun K5 h5 => ?_)
    refine W.region_quiet [(0, false), (1, false)] (by kernel_rfl) ?_
    refine W.as (v := .string (⟨#[]⟩ : ByteArray)) (h := ?_)
    refine W.as (v := .bool false) (h := ?_)
    refine W.endF 9 [(0, .agg #[.int .i64 m, .slice A n c]), (1, .pointer (some ⟨b2, 0, none⟩)), (2, .string (⟨#[]⟩ : ByteArray)), (3, .bool false), (6, .bool true)] (fun U26 => ?_)
    apply h5
    refine wp_ret ?_
    try simp only [Exit.then]
    refine ret2 (v := .string (⟨#[]⟩ : ByteArray)) (x := .bool false) rfl (by kernel_rfl) (by kernel_rfl) ?_
    obtain ⟨e1, e2⟩ := nt_no q15
    exact ⟨by rw [e1, e2], c25⟩
end Go.Proofs.YtdlcldaogcbnlaaDoor
namespace Go.Proofs.YtdlcldaogcbnlaaDoor
open Go.RowKit
set_option linter.unusedVariables false
set_option linter.unusedSimpArgs false
def ofL (l : List UInt8) : ByteArray := ⟨l.toArray⟩
theorem ofL_list (l : List UInt8) : (ofL l).data.toList = l := by simp [ofL]
theorem ofL_self (s : ByteArray) : ofL s.data.toList = s := bytes_ext (ofL_list _)
def splitC (c : UInt8) : List UInt8 → List (List UInt8)
  | [] => [[]]
  | b :: r => if b = c then [] :: splitC c r else match splitC c r with
    | h :: t => (b :: h) :: t
    | [] => [[b]]
theorem splitC_ne (c : UInt8) : ∀ l, splitC c l ≠ []
  | [] => by simp [splitC]
  | b :: r => by
    unfold splitC
    split
    · simp
    · split <;> simp
def addLast (b : UInt8) : List (List UInt8) → List (List UInt8)
  | [] => [[b]]
  | [h] => [h ++ [b]]
  | h :: t => h :: addLast b t
theorem addLast_cons {b : UInt8} {h : List UInt8} {t : List (List UInt8)} (ht : t ≠ []) : addLast b (h :: t) = h :: addLast b t := by
  cases t with
  | nil => exact absurd rfl ht
  | cons x y => rfl
theorem addLast_snoc (b : UInt8) (h : List UInt8) : ∀ l : List (List UInt8), addLast b (l ++ [h]) = l ++ [h ++ [b]]
  | [] => rfl
  | x :: t => by rw [List.cons_append, addLast_cons (by simp), addLast_snoc b h t]; rfl
theorem splitC_snoc (c b : UInt8) : ∀ l, splitC c (l ++ [b]) = if b = c then splitC c l ++ [[]] else addLast b (splitC c l)
  | [] => by
    by_cases h : b = c
    · simp [splitC, h]
    · simp [splitC, h, addLast]
  | x :: r => by
    have ih := splitC_snoc c b r
    have hne := splitC_ne c r
    rw [List.cons_append]
    conv => lhs; unfold splitC
    conv => rhs; unfold splitC
    by_cases hx : x = c
    · rw [if_pos hx, if_pos hx, ih]
      by_cases h : b = c
      · rw [if_pos h, if_pos h]; rfl
      · rw [if_neg h, if_neg h, addLast_cons hne]
    · rw [if_neg hx, if_neg hx, ih]
      cases hs : splitC c r with
      | nil => exact absurd hs hne
      | cons y t =>
        by_cases h : b = c
        · rw [if_pos h, if_pos h]; rfl
        · rw [if_neg h, if_neg h]
          cases t with
          | nil => rfl
          | cons z u => rfl
theorem take_snoc {s : ByteArray} {i : Nat} (h : i < s.size) : s.data.toList.take (i + 1) = s.data.toList.take i ++ [UInt8.ofNat (bAt s i)] := by
  obtain ⟨b, h1, h2⟩ := bAt_at h
  rw [List.take_add_one, h1, h2]; simp
theorem extract_snoc {s : ByteArray} {f i : Nat} (h : i < s.size) (hf : f ≤ i) : (s.extract f (i + 1)).data.toList = (s.extract f i).data.toList ++ [UInt8.ofNat (bAt s i)] := by
  obtain ⟨b, h1, h2⟩ := bAt_at h
  rw [Lib.extract_data, Lib.extract_data, show i + 1 - f = (i - f) + 1 by omega, List.take_add_one, List.getElem?_drop, show f + (i - f) = i by omega, h1, h2]; simp
theorem splitTo_splitC (s : ByteArray) {c : Nat} (hc : c < 256) : ∀ i, i ≤ s.size → splitC (UInt8.ofNat c) (s.data.toList.take i) = (splitTo s c i).1.map (·.data.toList) ++ [(s.extract (splitTo s c i).2 i).data.toList] := by
  intro i
  induction i with
  | zero => intro _; simp [splitC, splitTo, Lib.extract_data]
  | succ i ih =>
    intro hi
    have hle := (splitTo_le s c i).2
    rw [take_snoc (by omega), splitC_snoc, ih (by omega)]
    by_cases h : bAt s i = c
    · rw [if_pos (by rw [h]), splitTo_yes h]
      simp [Lib.extract_data]
    · have hb := bAt_lt s i
      have hne : ¬ UInt8.ofNat (bAt s i) = UInt8.ofNat c := fun e => h (by
        have e2 := congrArg UInt8.toNat e
        simp at e2; omega)
      rw [if_neg hne, splitTo_no h, addLast_snoc, extract_snoc (by omega) hle]
theorem splitL_splitC (s : ByteArray) {c : Nat} (hc : c < 256) : splitL s c = (splitC (UInt8.ofNat c) s.data.toList).map ofL := by
  have h := splitTo_splitC s hc s.size (Nat.le_refl _)
  rw [take_all rfl] at h
  rw [h]
  unfold splitL
  simp only [List.map_append, List.map_map, List.map_cons, List.map_nil]
  rw [show (ofL ∘ fun x : ByteArray => x.data.toList) = id from funext ofL_self, List.map_id, ofL_self]
theorem splitC_app {c : UInt8} {x y : List UInt8} (h : c ∉ x) : splitC c (x ++ c :: y) = x :: splitC c y := by
  induction x with
  | nil => simp [splitC]
  | cons b r ih =>
    have hb : ¬ b = c := fun e => h (by rw [e]; exact List.mem_cons_self ..)
    have := ih (fun e => h (List.mem_cons_of_mem _ e))
    rw [List.cons_append]
    conv => lhs; unfold splitC
    rw [if_neg hb, this]
theorem splitC_one {c : UInt8} {x : List UInt8} (h : c ∉ x) : splitC c x = [x] := by
  induction x with
  | nil => rfl
  | cons b r ih =>
    have hb : ¬ b = c := fun e => h (by rw [e]; exact List.mem_cons_self ..)
    unfold splitC
    rw [if_neg hb, ih (fun e => h (List.mem_cons_of_mem _ e))]
theorem not_stands {s : ByteArray} {c : Nat} (hc : c < 256) (h : UInt8.ofNat c ∉ s.data.toList) : standsB s c = false := by
  rw [stands_contains hc]
  simpa using h
theorem stands_not {s : ByteArray} {c : Nat} (hc : c < 256) (h : standsB s c = false) : UInt8.ofNat c ∉ s.data.toList := by
  rw [stands_contains hc] at h
  simpa using h
theorem splitL_app {x y : ByteArray} {c : Nat} (hc : c < 256) (h : standsB x c = false) : splitL (x ++ (⟨#[UInt8.ofNat c]⟩ : ByteArray) ++ y) c = x :: splitL y c := by
  have hl : (x ++ (⟨#[UInt8.ofNat c]⟩ : ByteArray) ++ y).data.toList = x.data.toList ++ UInt8.ofNat c :: y.data.toList := by
    rw [ByteArray.data_append, ByteArray.data_append]; simp
  rw [splitL_splitC _ hc, splitL_splitC _ hc, hl, splitC_app (stands_not hc h), List.map_cons, ofL_self]
theorem splitL_one {x : ByteArray} {c : Nat} (hc : c < 256) (h : standsB x c = false) : splitL x c = [x] := by
  rw [splitL_splitC _ hc, splitC_one (stands_not hc h), List.map_cons, List.map_nil, ofL_self]
theorem itoa_bytes (n : Int) (b : UInt8) (h : b ∈ (itoaB n).data.toList) : b.toNat = 45 ∨ 48 ≤ b.toNat ∧ b.toNat ≤ 57 := by
  rw [itoaB_list] at h
  by_cases h0 : n < 0
  · obtain ⟨k, hk⟩ : ∃ k : Nat, n = -(k : Int) := ⟨n.natAbs, by omega⟩
    subst hk
    rw [Lib.itoa_neg k (by omega)] at h
    cases h with
    | head => exact .inl rfl
    | tail _ h => exact .inr (digits_in k b h)
  · obtain ⟨k, rfl⟩ := Int.eq_ofNat_of_zero_le (show 0 ≤ n by omega)
    rw [Lib.itoa_nonneg] at h
    exact .inr (digits_in k b h)
end Go.Proofs.YtdlcldaogcbnlaaDoor
namespace Go.Proofs.YtdlcldaogcbnlaaDoor
open Go.RowKit
set_option linter.unusedVariables false
set_option linter.unusedSimpArgs false
def lineOf (p : Pp) : ByteArray := itoaB p.id ++ (⟨#[58, 32]⟩ : ByteArray) ++ itoaB p.fr ++ (⟨#[45]⟩ : ByteArray) ++ itoaB p.to ++ (⟨#[32, 115, 105, 122, 101, 32]⟩ : ByteArray) ++ itoaB p.sz
def headOf (m : Int) : ByteArray := (⟨#[110, 111, 100, 101, 115, 32]⟩ : ByteArray) ++ itoaB m
theorem no_itoa (n : Int) {c : Nat} (hc : c < 256) (h : c ≠ 45 ∧ ¬ (48 ≤ c ∧ c ≤ 57)) : UInt8.ofNat c ∉ (itoaB n).data.toList := fun hm => by
  have h1 := itoa_bytes n _ hm
  have e : (UInt8.ofNat c).toNat = c := by simp; omega
  rw [e] at h1
  omega
theorem no_minus {n : Int} (h : 0 ≤ n) : UInt8.ofNat 45 ∉ (itoaB n).data.toList := fun hm => by
  obtain ⟨k, rfl⟩ := Int.eq_ofNat_of_zero_le h
  rw [itoaB_list] at hm
  have e : Lib.itoa (k : Int) = Lib.decDigits k := by unfold Lib.itoa; rw [if_neg (by omega)]; simp
  rw [e] at hm
  have := digits_in k _ hm
  simp at this
theorem lines_app (r : List Pp) : ∀ (a b : ByteArray), r.foldl (fun s p => s ++ lineB p) (a ++ b) = a ++ r.foldl (fun s p => s ++ lineB p) b := by
  induction r with
  | nil => intro a b; rfl
  | cons p r ih =>
    intro a b
    rw [List.foldl_cons, List.foldl_cons, ByteArray.append_assoc, ih]
theorem no10_line (p : Pp) : standsB (lineOf p) 10 = false := not_stands (by omega) (by
  unfold lineOf
  simp only [ByteArray.data_append, Array.toList_append, List.mem_append, not_or]
  exact ⟨⟨⟨⟨⟨⟨no_itoa _ (by omega) (by omega), by decide⟩, no_itoa _ (by omega) (by omega)⟩, by decide⟩, no_itoa _ (by omega) (by omega)⟩, by decide⟩, no_itoa _ (by omega) (by omega)⟩)
theorem no10_head (m : Int) : standsB (headOf m) 10 = false := not_stands (by omega) (by
  unfold headOf
  simp only [ByteArray.data_append, Array.toList_append, List.mem_append, not_or]
  exact ⟨by decide, no_itoa _ (by omega) (by omega)⟩)
theorem split_lines : ∀ (r : List Pp) (x : ByteArray), standsB x 10 = false → splitL (r.foldl (fun s p => s ++ lineB p) (x ++ (⟨#[10]⟩ : ByteArray))) 10 = x :: (r.map lineOf ++ [⟨#[]⟩])
  | [], x, h => by
    have e : x ++ (⟨#[10]⟩ : ByteArray) = x ++ (⟨#[UInt8.ofNat 10]⟩ : ByteArray) ++ (⟨#[]⟩ : ByteArray) := by apply bytes_ext; simp [ByteArray.data_append]
    rw [List.foldl_nil, e, splitL_app (by omega) h]
    rw [splitL_one (by omega) (not_stands (by omega) (by simp))]
    rfl
  | p :: r, x, h => by
    rw [List.foldl_cons, lines_app]
    have e : lineB p = lineOf p ++ (⟨#[10]⟩ : ByteArray) := rfl
    rw [e]
    have e2 : (⟨#[10]⟩ : ByteArray) = (⟨#[UInt8.ofNat 10]⟩ : ByteArray) := rfl
    conv => lhs; lhs; lhs; rw [e2]
    rw [splitL_app (by omega) h, split_lines r _ (no10_line p)]
    rfl
theorem split_text (m : Int) (ps : List Pp) : splitL (textN m ps) 10 = headOf m :: (ps.map lineOf ++ [⟨#[]⟩]) := split_lines ps _ (no10_head m)
theorem split_head (m : Int) : splitL (headOf m) 32 = [⟨#[110, 111, 100, 101, 115]⟩, itoaB m] := by
  have e : headOf m = (⟨#[110, 111, 100, 101, 115]⟩ : ByteArray) ++ (⟨#[UInt8.ofNat 32]⟩ : ByteArray) ++ itoaB m := rfl
  rw [e, splitL_app (by omega) (not_stands (by omega) (by decide)), splitL_one (by omega) (not_stands (by omega) (no_itoa _ (by omega) (by omega)))]
theorem split_line (p : Pp) : splitL (lineOf p) 32 = [itoaB p.id ++ (⟨#[58]⟩ : ByteArray), itoaB p.fr ++ (⟨#[45]⟩ : ByteArray) ++ itoaB p.to, ⟨#[115, 105, 122, 101]⟩, itoaB p.sz] := by
  have e : lineOf p = (itoaB p.id ++ (⟨#[58]⟩ : ByteArray)) ++ (⟨#[UInt8.ofNat 32]⟩ : ByteArray) ++ ((itoaB p.fr ++ (⟨#[45]⟩ : ByteArray) ++ itoaB p.to) ++ (⟨#[UInt8.ofNat 32]⟩ : ByteArray) ++ ((⟨#[115, 105, 122, 101]⟩ : ByteArray) ++ (⟨#[UInt8.ofNat 32]⟩ : ByteArray) ++ itoaB p.sz)) := by
    apply bytes_ext
    unfold lineOf
    simp only [ByteArray.data_append, Array.toList_append, List.append_assoc]
    rfl
  have n1 : UInt8.ofNat 32 ∉ (itoaB p.id ++ (⟨#[58]⟩ : ByteArray)).data.toList := by
    simp only [ByteArray.data_append, Array.toList_append, List.mem_append, not_or]; exact ⟨no_itoa _ (by omega) (by omega), by decide⟩
  have n2 : UInt8.ofNat 32 ∉ (itoaB p.fr ++ (⟨#[45]⟩ : ByteArray) ++ itoaB p.to).data.toList := by
    simp only [ByteArray.data_append, Array.toList_append, List.mem_append, not_or]; exact ⟨⟨no_itoa _ (by omega) (by omega), by decide⟩, no_itoa _ (by omega) (by omega)⟩
  rw [e, splitL_app (by omega) (not_stands (by omega) n1), splitL_app (by omega) (not_stands (by omega) n2), splitL_app (by omega) (not_stands (by omega) (by decide)), splitL_one (by omega) (not_stands (by omega) (no_itoa _ (by omega) (by omega)))]
theorem split_ends {a b : Int} (ha : 0 ≤ a) (hb : 0 ≤ b) : splitL (itoaB a ++ (⟨#[45]⟩ : ByteArray) ++ itoaB b) 45 = [itoaB a, itoaB b] := by
  have e : (⟨#[45]⟩ : ByteArray) = (⟨#[UInt8.ofNat 45]⟩ : ByteArray) := rfl
  rw [e, splitL_app (by omega) (not_stands (by omega) (no_minus ha)), splitL_one (by omega) (not_stands (by omega) (no_minus hb))]
def okP (p : Pp) : Prop := (0 ≤ p.id ∧ p.id ≤ 999999) ∧ (0 ≤ p.fr ∧ p.fr ≤ 999999) ∧ (0 ≤ p.to ∧ p.to ≤ 999999) ∧ 0 ≤ p.sz ∧ p.sz ≤ 999999
def lineRel (s : ByteArray) (p : Pp) (b : Bool) : Prop := ∀ q, okP q → s = lineOf q → p = q ∧ b = true
theorem line_len {s : ByteArray} {q : Pp} (e : s = lineOf q) : (splitL s 32).length = 4 := by rw [e, split_line]; rfl
theorem line_rel {s x0 x1 x3 y0 y1 : ByteArray} {b : Bool} (h0 : (splitL s 32)[0]? = some x0) (h1 : (splitL s 32)[1]? = some x1) (h3 : (splitL s 32)[3]? = some x3) (g0 : (splitL x1 45)[0]? = some y0) (g1 : (splitL x1 45)[1]? = some y1)
    (hb : (ParseInt_v1 (x0.extract 0 (x0.size - 1)) && (ParseInt_v1 y0 && (ParseInt_v1 y1 && ParseInt_v1 x3))) = b) : lineRel s ⟨ParseInt_v0 (x0.extract 0 (x0.size - 1)), ParseInt_v0 y0, ParseInt_v0 y1, ParseInt_v0 x3⟩ b := fun q hq e => by
  subst e
  rw [split_line] at h0 h1 h3
  obtain rfl := Option.some.inj h0
  obtain rfl := Option.some.inj h1
  obtain rfl := Option.some.inj h3
  rw [split_ends hq.2.1.1 hq.2.2.1.1] at g0 g1
  obtain rfl := Option.some.inj g0
  obtain rfl := Option.some.inj g1
  have e0 : (itoaB q.id ++ (⟨#[58]⟩ : ByteArray)).extract 0 ((itoaB q.id ++ (⟨#[58]⟩ : ByteArray)).size - 1) = itoaB q.id := by
    apply bytes_ext
    have hs : (itoaB q.id ++ (⟨#[58]⟩ : ByteArray)).size - 1 = (itoaB q.id).data.toList.length := by rw [ByteArray.size_append, Array.length_toList]; rfl
    rw [hs, Lib.extract_data, List.drop_zero, Nat.sub_zero, ByteArray.data_append, Array.toList_append, List.take_left]
  rw [e0] at hb ⊢
  have a0 := num_yes (s := itoaB q.id) (m := q.id) (by have := hq.1; omega) rfl
  have a1 := num_yes (s := itoaB q.fr) (m := q.fr) (by have := hq.2.1; omega) rfl
  have a2 := num_yes (s := itoaB q.to) (m := q.to) (by have := hq.2.2.1; omega) rfl
  have a3 := num_yes (s := itoaB q.sz) (m := q.sz) (by have := hq.2.2.2; omega) rfl
  rw [a0.1, a1.1, a2.1, a3.1] at hb
  rw [a0.2, a1.2, a2.2, a3.2]
  exact ⟨rfl, hb.symm⟩
theorem line_first {s x0 : ByteArray} (h0 : (splitL s 32)[0]? = some x0) {q : Pp} (e : s = lineOf q) : 2 ≤ x0.size := by
  rw [e, split_line] at h0
  obtain rfl := Option.some.inj h0
  rw [ByteArray.size_append]
  have : 1 ≤ (itoaB q.id).size := by
    rw [itoaB_size]
    cases hl : Lib.itoa q.id with
    | nil =>
      have h := atoi_itoa q.id
      rw [hl] at h
      have h2 : Lib.atoi [] = none := by decide
      rw [h2] at h; cases h
    | cons a l => simp
  show 2 ≤ (itoaB q.id).size + 1
  omega
theorem line_ends {s x1 : ByteArray} (h1 : (splitL s 32)[1]? = some x1) {q : Pp} (hq : okP q) (e : s = lineOf q) : (splitL x1 45).length = 2 := by
  rw [e, split_line] at h1
  obtain rfl := Option.some.inj h1
  rw [split_ends hq.2.1.1 hq.2.2.1.1]; rfl
theorem good_okP {m : Int} {ps : List Pp} (h : goodN m ps = true) {p : Pp} (hp : p ∈ ps) : okP p := by
  have hg := good_of h
  have := hg.pipe hp
  have := hg.hi
  exact ⟨by omega, by omega, by omega, by omega⟩
def isNet (s : ByteArray) : Prop := ∃ x : Int × List Pp, goodN x.1 x.2 = true ∧ textN x.1 x.2 = s
noncomputable def PNof (s : ByteArray) : Int × List Pp := open Classical in if h : isNet s then h.choose else (0, [])
noncomputable def ParseNetwork_v1 (s : ByteArray) : Bool := open Classical in decide (isNet s)
noncomputable def ParseNetwork_v0m (s : ByteArray) : Int := (PNof s).1
noncomputable def ParseNetwork_v0 (s : ByteArray) : List Pp := (PNof s).2
theorem pn_no {s : ByteArray} (h : ∀ m ps, goodN m ps = true → textN m ps = s → False) : ParseNetwork_v1 s = false ∧ ParseNetwork_v0m s = 0 ∧ ParseNetwork_v0 s = [] := by
  have hn : ¬ isNet s := fun ⟨x, h1, h2⟩ => h _ _ h1 h2
  have e : PNof s = (0, []) := dif_neg hn
  unfold ParseNetwork_v1 ParseNetwork_v0m ParseNetwork_v0
  rw [e]
  exact ⟨by simp [hn], rfl, rfl⟩
theorem pn_yes {s : ByteArray} {nd : Int} {pl : List Pp} (hg : goodN nd pl = true) (ht : textN nd pl = s) (hu : ∀ m ps, goodN m ps = true → textN m ps = s → nd = m ∧ pl = ps) : ParseNetwork_v1 s = true ∧ ParseNetwork_v0m s = nd ∧ ParseNetwork_v0 s = pl := by
  have hn : isNet s := ⟨(nd, pl), hg, ht⟩
  have e : PNof s = hn.choose := dif_pos hn
  have hc := hn.choose_spec
  have h1 := hu _ _ hc.1 hc.2
  unfold ParseNetwork_v1 ParseNetwork_v0m ParseNetwork_v0
  rw [e]
  exact ⟨by simp [hn], h1.1.symm, h1.2.symm⟩
theorem pn_len (s : ByteArray) : (ParseNetwork_v0 s).length ≤ 1048576 := by
  by_cases hn : isNet s
  · have e : PNof s = hn.choose := dif_pos hn
    unfold ParseNetwork_v0
    rw [e]
    have := (good_of hn.choose_spec.1).len
    omega
  · have e : PNof s = (0, []) := dif_neg hn
    unfold ParseNetwork_v0
    rw [e]; simp
end Go.Proofs.YtdlcldaogcbnlaaDoor
namespace Go.Proofs.YtdlcldaogcbnlaaDoor
open Go.RowKit
set_option linter.unusedVariables false
set_option linter.unusedSimpArgs false
def insAtP (ps : List Pp) (a : Int) : Nat := (ps.takeWhile (fun v => decide (v.id < a))).length
theorem insAtP_at {a : Int} : ∀ {vs : List Pp} {k : Nat}, (∀ j z, j < k → vs[j]? = some z → z.id < a) → k ≤ vs.length → (∀ z, vs[k]? = some z → ¬ z.id < a) → insAtP vs a = k
  | [], k, _, hk, _ => by simp at hk; subst hk; rfl
  | v :: vs, 0, _, _, h => by
    have := h v rfl
    unfold insAtP; rw [List.takeWhile_cons, if_neg (by simpa using this)]; rfl
  | v :: vs, k + 1, h0, hk, h => by
    have h1 := h0 0 v (by omega) rfl
    have ih := insAtP_at (a := a) (vs := vs) (k := k) (fun j z hj hz => h0 (j + 1) z (by omega) (by simpa using hz)) (by simpa using hk) (fun z hz => h z (by simpa using hz))
    unfold insAtP at ih ⊢
    rw [List.takeWhile_cons, if_pos (by simpa using h1), List.length_cons, ih]
def moreP (ps : List Pp) (x : Pp) : List Pp := ps.take (insAtP ps x.id) ++ x :: ps.drop (insAtP ps x.id)
theorem moreP_is {ps : List Pp} {x : Pp} {k : Nat} (h : insAtP ps x.id = k) : moreP ps x = ps.take k ++ x :: ps.drop k := by unfold moreP; rw [h]
theorem moreP_is' {ps : List Pp} {x : Pp} {k : Nat} (h : insAtP ps x.id = k) : moreP ps x = ps.take k ++ [x] ++ ps.drop k := by unfold moreP; rw [h, List.append_assoc]; rfl
theorem moreP_id {m : Int} {ps : List Pp} {x : Pp} (h : goodN m (moreP ps x) = true) : findL ps x.id = -1 := by
  have hr := (good_of h).rise
  refine findL_no (fun z hz e => ?_)
  unfold rises at hr
  unfold moreP at hr
  rw [← List.take_append_drop (insAtP ps x.id) ps] at hz
  have h2 := List.pairwise_append.1 hr
  rcases List.mem_append.1 hz with hz | hz
  · have := h2.2.2 z hz x (List.mem_cons_self ..); omega
  · have := (List.pairwise_cons.1 h2.2.1).1 z hz; omega
def AddPipe_v1 (m : Int) (ps : List Pp) (x : Pp) : Bool := goodN m ps && goodN m (moreP ps x)
def AddPipe_m0 (m : Int) (ps : List Pp) (x : Pp) : Int := if AddPipe_v1 m ps x = true then m else 0
def AddPipe_v0 (m : Int) (ps : List Pp) (x : Pp) : List Pp := if AddPipe_v1 m ps x = true then moreP ps x else []
theorem add_of {m : Int} {ps : List Pp} {x : Pp} {L : List Pp} (h : goodN m ps = true) (hm : moreP ps x = L) (h2 : goodN m L = true) : AddPipe_v1 m ps x = true ∧ AddPipe_m0 m ps x = m ∧ AddPipe_v0 m ps x = L := by
  have h3 : AddPipe_v1 m ps x = true := by unfold AddPipe_v1; rw [h, hm, h2]; rfl
  exact ⟨h3, if_pos h3, (if_pos h3).trans hm⟩
theorem add_off {m : Int} {ps : List Pp} {x : Pp} (h3 : AddPipe_v1 m ps x = false) : AddPipe_v1 m ps x = false ∧ AddPipe_m0 m ps x = 0 ∧ AddPipe_v0 m ps x = [] := ⟨h3, if_neg (by rw [h3]; simp), if_neg (by rw [h3]; simp)⟩
theorem add_no {m : Int} {ps : List Pp} {x : Pp} (h : goodN m ps = false) : AddPipe_v1 m ps x = false ∧ AddPipe_m0 m ps x = 0 ∧ AddPipe_v0 m ps x = [] := add_off (by unfold AddPipe_v1; rw [h]; rfl)
theorem add_two {m : Int} {ps : List Pp} {x : Pp} (h : 0 ≤ findL ps x.id) : AddPipe_v1 m ps x = false ∧ AddPipe_m0 m ps x = 0 ∧ AddPipe_v0 m ps x = [] := add_off (by
  unfold AddPipe_v1
  cases e : goodN m (moreP ps x) with
  | false => rw [Bool.and_false]
  | true => have := moreP_id e; omega)
theorem add_bad {m : Int} {ps : List Pp} {x : Pp} {L : List Pp} (hm : moreP ps x = L) (h : goodN m L = false) : AddPipe_v1 m ps x = false ∧ AddPipe_m0 m ps x = 0 ∧ AddPipe_v0 m ps x = [] := add_off (by unfold AddPipe_v1; rw [hm, h, Bool.and_false])
theorem AddPipe_len (m : Int) (ps : List Pp) (x : Pp) : (AddPipe_v0 m ps x).length ≤ 1048576 := by
  by_cases h : AddPipe_v1 m ps x = true
  · have h2 := h
    unfold AddPipe_v1 at h2
    rw [Bool.and_eq_true] at h2
    have hg := (good_of h2.2).len
    unfold AddPipe_v0
    rw [if_pos h]; omega
  · unfold AddPipe_v0; rw [if_neg h]; simp
end Go.Proofs.YtdlcldaogcbnlaaDoor
namespace Go.Proofs.YtdlcldaogcbnlaaDoor
open Go.RowKit
set_option linter.unusedVariables false
theorem ob_same {A : Option Addr} {n c n' c' : Nat} : (Value.slice A n c).ownBlock = (Value.slice A n' c').ownBlock := by cases A <;> rfl
section
variable {P : Program}
theorem run_copy_blk (w : World) (dT sT ty elem : TypeId) (g off dLen dCap : Nat) (a : Addr) (sLen sCap size : Nat) (cs : List Value) (cur : Array Value) (E : TypeId)
    (hu : P.underlying dT = some (.slice elem)) (hs : (P.info? elem).map (·.size) = some size) (hn : cs.length = Nat.min sLen dLen * size)
    (hsrc : ∀ j v, cs[j]? = some v → w.cell? (a.add j) = some v) (hg : w.heap[g]? = some (.cells cur E (0, 0))) (hfit : off + cs.length ≤ cur.size) (h1 : ∀ v ∈ cs, v.oneCell' = true) :
    (Builtin.copy_ #[dT, sT] ty #[.slice (some ⟨g, off, none⟩) dLen dCap, .slice (some a) sLen sCap]).run P w = .ok (goInt (Nat.min sLen dLen)) (w.setRow g (cur.toList.take off ++ cs ++ cur.toList.drop (off + cs.length)).toArray) := by
  have hl := run_loadCells_list (P := P) w a cs hsrc
  have hst := run_storeCells_at P g off E cs 0 cur w hg (by simpa using hfit) h1
  simp only [Nat.add_zero] at hst
  cases hq : P.info? elem with
  | none => simp [hq] at hs
  | some i =>
    have hi : i.size = size := by simpa [hq] using hs
    simp [Builtin.copy_, run_underlying hu, Builtin.lenOf, Builtin.firstCells, sizeOf, typeInfo, hq, hi, ← hn, hl, hst]
theorem run_clear_blk (w : World) (t e ty : TypeId) (zs : List Value) (z : Value) (ht : P.underlying t = some (.slice e)) (hv : ∀ w, (zeroValue e).run P w = .ok z w) (g off n c : Nat) (hn : 0 < n) (hz : (Builtin.zeroCells z.cells n).toList = zs) (h1 : ∀ v ∈ zs, v.oneCell' = true)
    (cur : Array Value) (E : TypeId) (hg : w.heap[g]? = some (.cells cur E (0, 0))) (hfit : off + zs.length ≤ cur.size) :
    (Builtin.clear_ #[t] ty #[.slice (some ⟨g, off, none⟩) n c]).run P w = .ok (.tuple #[]) (w.setRow g (cur.toList.take off ++ zs ++ cur.toList.drop (off + zs.length)).toArray) := by
  have hst := run_storeCells_at P g off E zs 0 cur w hg (by simpa using hfit) h1
  simp only [Nat.add_zero] at hst
  obtain ⟨m, rfl⟩ : ∃ m, n = m + 1 := ⟨n - 1, by omega⟩
  simp [Builtin.clear_, run_underlying ht, hv, hz, hst]
theorem run_append_room_blk (w : World) (t ty e : TypeId) (i : TypeInfo) (ht : P.underlying t = some (.slice e)) (hi : P.info? e = some i)
    (g sLen sCap : Nat) (a : Addr) (m c size : Nat) (news : List Value) (hsz : i.size = size) (hl : news.length = m * size) (hnews : ∀ j u, news[j]? = some u → w.cell? (a.add j) = some u) (h1 : ∀ u ∈ news, u.oneCell' = true)
    (hroom : sLen + m ≤ sCap) (cur : Array Value) (E : TypeId) (hg : w.heap[g]? = some (.cells cur E (0, 0))) (hfit : sLen * size + news.length ≤ cur.size) :
    (Builtin.append_ #[t, t] ty #[.slice (some ⟨g, 0, none⟩) sLen sCap, .slice (some a) m c]).run P w = .ok (.slice (some ⟨g, 0, none⟩) (sLen + m) sCap) (w.setRow g (cur.toList.take (sLen * size) ++ news ++ cur.toList.drop (sLen * size + news.length)).toArray) := by
  subst hsz
  have hfc := run_firstCells_some (P := P) w i.size m a m c news hl hnews
  have hst := run_storeCells_at P g (sLen * i.size) E news 0 cur w hg (by simpa using hfit) h1
  simp only [Nat.add_zero] at hst
  simp [Builtin.append_, run_underlying ht, sizeOf, typeInfo, hi, Builtin.lenOf, hroom, hfc, Addr.add_lit, hst]
theorem grown_row {w : World} {g : Nat} {cs : Array Value} : w.grownBy (w.setRow g cs) (some g) := ⟨rfl, rfl, rfl, by simp [World.setRow], fun k _ hk => setRow_other w g k _ (fun e => hk (by rw [e]))⟩
theorem own_open {w : World} {base : Nat} {e : TypeId} {size n c : Nat} {A : Option Addr} {xs : List Value} (h : w.ownsRow base e size (.slice A n c) n xs) (hn : 0 < n) :
    ∃ g cur, A = some ⟨g, 0, none⟩ ∧ base ≤ g ∧ w.heap[g]? = some (.cells cur e (0, 0)) ∧ n ≤ c ∧ c ≤ maxLen ∧ cur.size = c * size ∧ cur.toList.take (n * size) = xs := by
  rcases h.2 with ⟨_, h0⟩ | ⟨g, cap, cur, hv, hb, hh, hnc, hm, hs, ht⟩
  · omega
  · simp only [Value.slice.injEq] at hv
    obtain ⟨rfl, _, rfl⟩ := hv
    exact ⟨g, cur, rfl, hb, hh, hnc, hm, hs, ht⟩
theorem own_shut {w : World} {base : Nat} {e : TypeId} {size n c g : Nat} {cur : Array Value} {xs : List Value} (hb : base ≤ g) (hh : w.heap[g]? = some (.cells cur e (0, 0))) (hnc : n ≤ c) (hm : c ≤ maxLen) (hs : cur.size = c * size) (ht : cur.toList.take (n * size) = xs) (hl : xs.length = n * size) :
    w.ownsRow base e size (.slice (some ⟨g, 0, none⟩) n c) n xs := ⟨hl, .inr ⟨g, c, cur, rfl, hb, hh, hnc, hm, hs, ht⟩⟩
end
section
variable {P : Program} {S : World → Prop} {o : Oper} {a : Act}
theorem r_sliceLH {t : TypeId} {x y z : Operand} {A : Option Addr} {n c lo hi size : Nat} (ho : o.op = .slice t x (some y) (some z) none) (hx : a.eval x = .slice A n c) (hy : a.eval y = .int .i64 (lo : Int)) (hz : a.eval z = .int .i64 (hi : Int)) (ht : elSz P t = some size) (h1 : lo ≤ hi) (h2 : hi ≤ c) :
    ∀ w, S w → (execOp a.eval o).run P w = .ok (.value (.slice (sFrom A c lo size) (hi - lo) (c - lo))) w := fun w _ => by
  obtain ⟨e, hu, hs⟩ := elSz_of ht
  have h0 : (0 : Int) ≤ (lo : Int) ∧ (lo : Int) ≤ (hi : Int) ∧ (hi : Int) ≤ (c : Int) ∧ (0 : Int) ≤ (hi : Int) := by omega
  simp [execOp, ho, hx, hy, hz, Instr.sliceAt, Instr.slice, Instr.sliceBounds, Instr.sliceBound, asIntOf, underlying, hu, run_sizeOf hs, h0, sFrom, h1, h2]
theorem r_sliceLHe {t : TypeId} {x y z : Operand} {A A2 : Option Addr} {n c lo hi size k2 c2 : Nat} (ho : o.op = .slice t x (some y) (some z) none) (hx : a.eval x = .slice A n c) (hy : a.eval y = .int .i64 (lo : Int)) (hz : a.eval z = .int .i64 (hi : Int)) (ht : elSz P t = some size) (h1 : lo ≤ hi) (h2 : hi ≤ c) (e1 : sFrom A c lo size = A2) (e2 : hi - lo = k2) (e3 : c - lo = c2) :
    ∀ w, S w → (execOp a.eval o).run P w = .ok (.value (.slice A2 k2 c2)) w := by
  subst e1 e2 e3
  exact r_sliceLH ho hx hy hz ht h1 h2
theorem r_slice3 {t : TypeId} {x y z u : Operand} {A : Option Addr} {n c lo hi mx size : Nat} (ho : o.op = .slice t x (some y) (some z) (some u)) (hx : a.eval x = .slice A n c) (hy : a.eval y = .int .i64 (lo : Int)) (hz : a.eval z = .int .i64 (hi : Int)) (hu9 : a.eval u = .int .i64 (mx : Int)) (ht : elSz P t = some size) (h1 : lo ≤ hi) (h2 : hi ≤ mx) (h3 : mx ≤ c) :
    ∀ w, S w → (execOp a.eval o).run P w = .ok (.value (.slice (sFrom A mx lo size) (hi - lo) (mx - lo))) w := fun w _ => by
  obtain ⟨e, hu, hs⟩ := elSz_of ht
  have h0 : (0 : Int) ≤ (lo : Int) ∧ (lo : Int) ≤ (hi : Int) ∧ (hi : Int) ≤ (mx : Int) ∧ (mx : Int) ≤ (c : Int) ∧ (0 : Int) ≤ (hi : Int) ∧ (0 : Int) ≤ (mx : Int) := by omega
  simp [execOp, ho, hx, hy, hz, hu9, Instr.sliceAt, Instr.slice, Instr.sliceBounds, Instr.sliceBound, asIntOf, underlying, hu, run_sizeOf hs, h0, sFrom, h1, h2, h3]
end
section
variable {P : Program} {ops : Array Oper} {Q : Exit → Act → World → Prop} {W : World} {row : Option Nat}
theorem lv {i : Nat} {π : Sch} {l : List Value} {w w' : World} {o : Oper} {v : Value} {d : Tmp} (hi : ops[i]? = some o) (hw : Region.wanted o (yielded ops l.toArray) = true) (hd : o.dst = some d) (hr : (execOp (Act.mk l.toArray []).eval o).run P w = .ok (.value v) w') (hS : SG W row w')
    (h : wpSch P ops Q (SG W row) π ⟨(l.set d v).toArray, []⟩ w') : wpSch P ops Q (SG W row) (.cons (i, true) π) ⟨l.toArray, []⟩ w := by
  show wpOp P ops Q i _ _ w
  unfold wpOp
  simp only [hi, hw, if_true]
  left
  unfold Oper.wp
  rw [hr, Oper.upon_value]
  refine ⟨hS, ?_⟩
  rw [hd]; simpa [Act.put] using h
theorem lvn {i : Nat} {π : Sch} {l : List Value} {w w' : World} {o : Oper} {v : Value} (hi : ops[i]? = some o) (hw : Region.wanted o (yielded ops l.toArray) = true) (hd : o.dst = none) (hr : (execOp (Act.mk l.toArray []).eval o).run P w = .ok (.value v) w') (hS : SG W row w')
    (h : wpSch P ops Q (SG W row) π ⟨l.toArray, []⟩ w') : wpSch P ops Q (SG W row) (.cons (i, true) π) ⟨l.toArray, []⟩ w := by
  show wpOp P ops Q i _ _ w
  unfold wpOp
  simp only [hi, hw, if_true]
  left
  unfold Oper.wp
  rw [hr, Oper.upon_value]
  refine ⟨hS, ?_⟩
  rw [hd]; simpa [Act.put] using h
theorem W.lv {i : Nat} {π : Sch} {l : List Value} {w w' : World} {o : Oper} {v : Value} {d : Tmp} (hi : ops[i]? = some o) (hw : Region.wanted o (yielded ops l.toArray) = true) (hd : o.dst = some d) (hr : (execOp (Act.mk l.toArray []).eval o).run P w = .ok (.value v) w') (hS : SG W row w')
    (h : Ws P ops Q (SG W row) π (l.set d v) w') : Ws P ops Q (SG W row) (.cons (i, true) π) l w := ⟨Go.Proofs.YtdlcldaogcbnlaaDoor.lv hi hw hd hr hS h.out⟩
theorem W.lvn {i : Nat} {π : Sch} {l : List Value} {w w' : World} {o : Oper} {v : Value} (hi : ops[i]? = some o) (hw : Region.wanted o (yielded ops l.toArray) = true) (hd : o.dst = none) (hr : (execOp (Act.mk l.toArray []).eval o).run P w = .ok (.value v) w') (hS : SG W row w')
    (h : Ws P ops Q (SG W row) π l w') : Ws P ops Q (SG W row) (.cons (i, true) π) l w := ⟨Go.Proofs.YtdlcldaogcbnlaaDoor.lvn hi hw hd hr hS h.out⟩
theorem run_copyOp {l : List Value} {w w' : World} {o : Oper} {d s : Operand} {dT sT : TypeId} {x y v : Value} (ho : o.op = .call { callee := .builtin .copy, args := #[d, s], argTypes := #[dT, sT] }) (hx : (Act.mk l.toArray []).eval d = x) (hy : (Act.mk l.toArray []).eval s = y)
    (hr : (Builtin.copy_ #[dT, sT] o.type #[x, y]).run P w = .ok v w') : (execOp (Act.mk l.toArray []).eval o).run P w = .ok (.value v) w' := by
  simp [execOp, ho, resolve, invoke, builtin, hx, hy, hr, Result.andThen]
theorem run_appendOp {l : List Value} {w w' : World} {o : Oper} {d s : Operand} {dT sT : TypeId} {x y v : Value} (ho : o.op = .call { callee := .builtin .append, args := #[d, s], argTypes := #[dT, sT] }) (hx : (Act.mk l.toArray []).eval d = x) (hy : (Act.mk l.toArray []).eval s = y)
    (hr : (Builtin.append_ #[dT, sT] o.type #[x, y]).run P w = .ok v w') : (execOp (Act.mk l.toArray []).eval o).run P w = .ok (.value v) w' := by
  simp [execOp, ho, resolve, invoke, builtin, hx, hy, hr, Result.andThen]
theorem run_clearOp {l : List Value} {w w' : World} {o : Oper} {d : Operand} {dT : TypeId} {x v : Value} (ho : o.op = .call { callee := .builtin .clear, args := #[d], argTypes := #[dT] }) (hx : (Act.mk l.toArray []).eval d = x)
    (hr : (Builtin.clear_ #[dT] o.type #[x]).run P w = .ok v w') : (execOp (Act.mk l.toArray []).eval o).run P w = .ok (.value v) w' := by
  simp [execOp, ho, resolve, invoke, builtin, hx, hr, Result.andThen]
end
end Go.Proofs.YtdlcldaogcbnlaaDoor
