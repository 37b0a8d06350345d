/- Drawn amounts' texts, conversions, comparisons and sums. -/
import Derived.Test.YtlkphjlabmnjiaaDoorDraw3
import Derived.Test.YtlkphjlabmnjiaaDoorSpoilt
import Derived.Test.YtlkphjlabmnjiaaDoorAmtL
import Derived.Test.YtlkphjlabmnjiaaDoorRes2
import Derived.Test.YtlkphjlabmnjiaaDoorFr
namespace Go.Proofs.YtlkphjlabmnjiaaDoor
open Go.RowKit
set_option linter.unusedVariables false
set_option linter.unusedSimpArgs false

set_option maxRecDepth 100000 in
set_option maxHeartbeats 8000000 in
theorem DrawIsValidAmount_any (A : Option Addr) (n c : Nat) (zs : List Int) (w : World) (hcode : Rd w 1 A n (bytesV zs)) (hz : ∀ z ∈ zs, 0 ≤ z ∧ z < 256) (hn : n ≤ 4611686018427387904) :
    Calls Tryd.prog 62 #[.slice A n c] w fun e w' => ∃ v u : Int, e = .returned (.agg #[.int .i64 v, .int .i64 u]) ∧ Below w.heap.size w w' := by
  have hl := rd_bytes_len hcode
  go_enter Tryd.func62, Tryd.ntmps62
  refine wp_seq_k (fun K1 h1 => ?_)
  refine W.region_plain (row := none) [(0, true)] (by kernel_rfl) ?_
  have s1 := SG.self w none
  refine W.sn (fun b => .pointer (some ⟨b, 0, none⟩)) #[.int .i64 0, .int .i64 0] 26 s1 rfl (by kernel_rfl) rfl (fun _ => by kernel_rfl) (fun b2 w3 hb4 k5 x6 s7 => ?_)
  have lo8 : w.heap.size ≤ b2 := Nat.le_trans ((SG.belowR (Below.refl _ _) s1 (fun kq e => by cases e))).size (Nat.le_of_eq hb4)
  refine W.endF 9 [(0, .slice A n c), (2, .pointer (some ⟨b2, 0, none⟩))] (fun U9 => ?_)
  have c10 := (SG.belowR (Below.refl _ _) s7 (fun kq e => by cases e))
  refine h1 _ _ ?_
  refine wp_seq_k (fun K2 h2 => ?_)
  refine W.region_plain (row := none) [(0, false), (1, false), (2, true), (3, false)] (by kernel_rfl) ?_
  have s11 := SG.self w3 none
  refine F.mv (v := .slice A n c) (h := ?_)
  refine F.q (v := .agg #[.slice A n c, .int .i64 0, .int .u64 0]) (hr := (r_build rfl (vs := [(0, .slice A n c)]) (by kernel_rfl) (by kernel_rfl))) (h := ?_)
  refine W.sn (fun b => .pointer (some ⟨b, 0, none⟩)) #[.slice A n c, .int .i64 0, .int .u64 0] 84 s11 rfl (by kernel_rfl) rfl (fun _ => by kernel_rfl) (fun b12 w13 hb14 k15 x16 s17 => ?_)
  refine F.nx ?_
  have lo18 : w.heap.size ≤ b12 := Nat.le_trans ((SG.belowR c10 s11 (fun kq e => by cases e))).size (Nat.le_of_eq hb14)
  have ne19 : b2 ≠ b12 := Nat.ne_of_lt (Nat.lt_of_lt_of_eq (Nat.lt_of_lt_of_le (blk_lt x6) (s11).size) hb14)
  have x20 := Cur.new x16 hcode hz hn ((SG.belowR c10 s17 (fun kq e => by cases e))) lo18
  have hN : w.heap.size ≤ w.heap.size := Nat.le_refl _
  refine F.as (v := .pointer (some ⟨b12, 0, none⟩)) (h := ?_)
  refine F.endF [(0, .slice A n c), (2, .pointer (some ⟨b2, 0, none⟩)), (3, .pointer (some ⟨b12, 0, none⟩))] (fun U21 => ?_)
  have x6 := SG.blk s17 x6 (Option.some_ne_none _)
  have c22 := (SG.belowR c10 s17 (fun kq e => by cases e))
  refine h2 _ _ ?_
  refine wp_seq_k (fun K3 h3 => ?_)
  refine M.region_plain (row := [(some b12), (some b2)]) [(0, false), (1, true), (2, true)] (by kernel_rfl) ?_
  have s23 := SM.self w13 [(some b12), (some b2)]
  refine F.mv (v := .pointer (some ⟨b12, 0, none⟩)) (h := ?_)
  refine W.sc (vs := [.pointer (some ⟨b12, 0, none⟩)]) rfl rfl (by kernel_rfl) (by kernel_rfl) (by kernel_rfl) rfl (amount_any b12 w.heap.size 0  _ x20 (by omega) ) ?_
  rintro e w28 ⟨v24, u25, rfl, hx26, x30, g29⟩
  have s31 := SM.of_grown s23 g29 (.inl (by simp))
  refine ⟨_, rfl, s31, ?_⟩
  refine F.nx ?_
  have x6 := (g29.block _ (blk_lt x6) (fun e9 => ne19 (Option.some.inj e9))).trans x6
  refine M.ss (v := .agg #[.int .i64 v24, .int .i64 u25]) (j := 0) (news := [.int .i64 v24, .int .i64 u25]) (cs' := #[.int .i64 v24, .int .i64 u25]) s31 rfl (by kernel_rfl) rfl rfl (by kernel_rfl) (by kernel_rfl) x6 (by kernel_rfl) (by kernel_rfl) (by simp) (by kernel_rfl) (by kernel_rfl) (.inl (by simp)) (fun w32 g33 x34 s35 => ?_)
  have x30 := Cur.grown x30 g33 (fun e9 => ne19 (Option.some.inj e9).symm) (fun j e => by cases e; exact Nat.le_trans hN lo8)
  refine F.endF [(0, .slice A n c), (2, .pointer (some ⟨b2, 0, none⟩)), (3, .pointer (some ⟨b12, 0, none⟩))] (fun U36 => ?_)
  have c37 := (SM.belowR c22 s35 (in2 (fun kq e => (by cases e; exact lo18)) (fun kq e => (by cases e; exact lo8))))
  refine h3 _ _ ?_
  refine wp_ret ?_
  try simp only [Exit.then]
  refine retC rfl rfl (by kernel_rfl) (by kernel_rfl) x34 ?_
  exact ⟨_, _, rfl, c37⟩

set_option maxRecDepth 100000 in
set_option maxHeartbeats 8000000 in
theorem DrawAmountText_any (A : Option Addr) (n c : Nat) (zs : List Int) (w : World) (hcode : Rd w 1 A n (bytesV zs)) (hz : ∀ z ∈ zs, 0 ≤ z ∧ z < 256) (hn : n ≤ 4611686018427387904) :
    Calls Tryd.prog 34 #[.slice A n c] w fun e w' => ∃ v u : Int, e = .returned (.agg #[.int .i64 v, .int .i64 u]) ∧ Below w.heap.size w w' := by
  have hl := rd_bytes_len hcode
  go_enter Tryd.func34, Tryd.ntmps34
  refine wp_seq_k (fun K1 h1 => ?_)
  refine W.region_plain (row := none) [(0, true)] (by kernel_rfl) ?_
  have s1 := SG.self w none
  refine W.sn (fun b => .pointer (some ⟨b, 0, none⟩)) #[.int .i64 0, .int .i64 0] 26 s1 rfl (by kernel_rfl) rfl (fun _ => by kernel_rfl) (fun b2 w3 hb4 k5 x6 s7 => ?_)
  have lo8 : w.heap.size ≤ b2 := Nat.le_trans ((SG.belowR (Below.refl _ _) s1 (fun kq e => by cases e))).size (Nat.le_of_eq hb4)
  refine W.endF 5 [(0, .slice A n c), (2, .pointer (some ⟨b2, 0, none⟩))] (fun U9 => ?_)
  have c10 := (SG.belowR (Below.refl _ _) s7 (fun kq e => by cases e))
  refine h1 _ _ ?_
  refine wp_seq_k (fun K2 h2 => ?_)
  refine W.region_plain (row := (some b2)) [(0, false), (1, true), (2, true)] (by kernel_rfl) ?_
  have s11 := SG.self w3 (some b2)
  refine F.mv (v := .slice A n c) (h := ?_)
  refine W.sc (vs := [.slice A n c]) rfl rfl (by kernel_rfl) (by kernel_rfl) (by kernel_rfl) rfl (DrawIsValidAmount_any A n c zs _ (Rd.kept hcode (SG.belowR c10 s11 (fun kq e => by cases e; exact lo8))) hz hn) ?_
  rintro e w13 ⟨v, u, rfl, b12⟩
  have s14 := SG.of_below s11 b12
  refine ⟨_, rfl, s14, ?_⟩
  refine F.nx ?_
  have x6 := (b12.block _ (blk_lt x6)).trans x6
  refine W.ss (v := .agg #[.int .i64 v, .int .i64 u]) (j := 0) (news := [.int .i64 v, .int .i64 u]) (cs' := #[.int .i64 v, .int .i64 u]) s14 rfl (by kernel_rfl) rfl rfl (by kernel_rfl) (by kernel_rfl) x6 (by kernel_rfl) (by kernel_rfl) (by simp) (by kernel_rfl) (by kernel_rfl) (.inl rfl) (fun w15 g16 x17 s18 => ?_)
  refine F.endF [(0, .slice A n c), (2, .pointer (some ⟨b2, 0, none⟩))] (fun U19 => ?_)
  have c20 := (SG.belowR c10 s18 (fun kq e => by cases e; exact lo8))
  refine h2 _ _ ?_
  refine wp_ret ?_
  try simp only [Exit.then]
  refine retC rfl rfl (by kernel_rfl) (by kernel_rfl) x17 ?_
  exact ⟨_, _, rfl, c20⟩

set_option maxRecDepth 100000 in
set_option maxHeartbeats 8000000 in
theorem DrawParseAmount_any (A : Option Addr) (n c : Nat) (zs : List Int) (w : World) (hcode : Rd w 1 A n (bytesV zs)) (hz : ∀ z ∈ zs, 0 ≤ z ∧ z < 256) (hn : n ≤ 4611686018427387904) :
    Calls Tryd.prog 36 #[.slice A n c] w fun e w' => ∃ s : ByteArray, e = .returned (.string s) ∧ s.size ≤ 100 ∧ Below w.heap.size w w' := by
  have hl := rd_bytes_len hcode
  go_enter Tryd.func36, Tryd.ntmps36
  refine wp_seq_k (fun K1 h1 => ?_)
  refine W.region_quiet [(0, false)] (by kernel_rfl) ?_
  refine W.as (v := .string (⟨#[]⟩ : ByteArray)) (h := ?_)
  refine W.endF 21 [(0, .slice A n c), (2, .string (⟨#[]⟩ : ByteArray))] (fun U1 => ?_)
  refine h1 _ _ ?_
  refine wp_seq_k (fun K2 h2 => ?_)
  refine W.region_plain (row := none) [(0, false), (1, false), (2, true), (3, false)] (by kernel_rfl) ?_
  have s2 := SG.self w none
  refine F.mv (v := .slice A n c) (h := ?_)
  refine F.q (v := .agg #[.slice A n c, .int .i64 0, .int .u64 0]) (hr := (r_build rfl (vs := [(0, .slice A n c)]) (by kernel_rfl) (by kernel_rfl))) (h := ?_)
  refine W.sn (fun b => .pointer (some ⟨b, 0, none⟩)) #[.slice A n c, .int .i64 0, .int .u64 0] 84 s2 rfl (by kernel_rfl) rfl (fun _ => by kernel_rfl) (fun b3 w4 hb5 k6 x7 s8 => ?_)
  refine F.nx ?_
  have lo9 : w.heap.size ≤ b3 := Nat.le_trans ((SG.belowR (Below.refl _ _) s2 (fun kq e => by cases e))).size (Nat.le_of_eq hb5)
  have x10 := Cur.new x7 hcode hz hn ((SG.belowR (Below.refl _ _) s8 (fun kq e => by cases e))) lo9
  have hN : w.heap.size ≤ w.heap.size := Nat.le_refl _
  refine F.as (v := .pointer (some ⟨b3, 0, none⟩)) (h := ?_)
  refine F.endF [(0, .slice A n c), (2, .string (⟨#[]⟩ : ByteArray)), (3, .pointer (some ⟨b3, 0, none⟩))] (fun U11 => ?_)
  have c12 := (SG.belowR (Below.refl _ _) s8 (fun kq e => by cases e))
  refine h2 _ _ ?_
  refine wp_seq_k (fun K3 h3 => ?_)
  refine W.region_plain (row := (some b3)) [(0, false), (1, true), (2, true), (3, false), (4, false), (5, false), (6, false), (7, false)] (by kernel_rfl) ?_
  have s13 := SG.self w4 (some b3)
  refine F.mv (v := .pointer (some ⟨b3, 0, none⟩)) (h := ?_)
  refine W.sc (vs := [.pointer (some ⟨b3, 0, none⟩)]) rfl rfl (by kernel_rfl) (by kernel_rfl) (by kernel_rfl) rfl (amount_any b3 w.heap.size 0  _ x10 (by omega) ) ?_
  rintro e w18 ⟨v14, u15, rfl, hx16, x20, g19⟩
  have s21 := SG.of_grown s13 g19 (.inl rfl)
  refine ⟨_, rfl, s21, ?_⟩
  refine F.nx ?_
  have hts := text_size v14 u15
  refine W.sc (vs := [.agg #[.int .i64 v14, .int .i64 u15]]) rfl rfl (by kernel_rfl) (by kernel_rfl) (by kernel_rfl) rfl (AmountText_spec v14 u15 _) ?_
  rintro e w23 ⟨rfl, b22⟩
  have s24 := SG.of_below s21 b22
  refine ⟨_, rfl, s24, ?_⟩
  refine F.nx ?_
  have x20 := Cur.below x20 b22
  refine F.mv (v := .tuple #[.string (AmountText_v0 v14 u15), .bool (AmountText_v1 v14 u15)]) (h := ?_)
  refine F.q (v := .string (AmountText_v0 v14 u15)) (hr := (r_extract (vs := #[.string (AmountText_v0 v14 u15), .bool (AmountText_v1 v14 u15)]) rfl (ev_any (by kernel_rfl)) (by kernel_rfl))) (h := ?_)
  refine F.q (v := .bool (AmountText_v1 v14 u15)) (hr := (r_extract (vs := #[.string (AmountText_v0 v14 u15), .bool (AmountText_v1 v14 u15)]) rfl (ev_any (by kernel_rfl)) (by kernel_rfl))) (h := ?_)
  refine F.as (v := .string (AmountText_v0 v14 u15)) (h := ?_)
  refine F.as (v := .bool (AmountText_v1 v14 u15)) (h := ?_)
  refine F.endF [(0, .slice A n c), (2, .string (⟨#[]⟩ : ByteArray)), (3, .pointer (some ⟨b3, 0, none⟩)), (4, .string (AmountText_v0 v14 u15))] (fun U25 => ?_)
  have c26 := (SG.belowR c12 s24 (fun kq e => by cases e; exact lo9))
  refine h3 _ _ ?_
  refine wp_seq_k (fun K4 h4 => ?_)
  refine wp_seq_k (fun K5 h5 => ?_)
  refine W.region_plain (row := (some b3)) [(0, false), (1, true)] (by kernel_rfl) ?_
  have s27 := SG.self w23 (some b3)
  refine F.mv (v := .pointer (some ⟨b3, 0, none⟩)) (h := ?_)
  refine W.sc (vs := [.pointer (some ⟨b3, 0, none⟩), .int .i64 4]) rfl rfl (by kernel_rfl) (by kernel_rfl) (by kernel_rfl) rfl (one_any b3 w.heap.size (0 + 12) 4 _ x20 (by omega) (by omega)) ?_
  rintro e w31 ⟨b28, rfl, _, x33, g32⟩
  have s34 := SG.of_grown s27 g32 (.inl rfl)
  refine ⟨_, rfl, s34, ?_⟩
  refine F.nx ?_
  rcases Bool.eq_false_or_eq_true b28 with q35 | q35
  · rw [q35]
    refine F.endF [(0, .slice A n c), (2, .string (⟨#[]⟩ : ByteArray)), (3, .pointer (some ⟨b3, 0, none⟩)), (4, .string (AmountText_v0 v14 u15)), (16, .bool true)] (fun U36 => ?_)
    have c37 := (SG.belowR c26 s34 (fun kq e => by cases e; exact lo9))
    refine h5 _ _ ?_
    refine wp_cond_true (by kernel_rfl) ?_
    refine W.region_plain (row := (some b3)) [(0, false), (1, false), (2, true), (3, false)] (by kernel_rfl) ?_
    have s38 := SG.self w31 (some b3)
    refine F.mv (v := .pointer (some ⟨b3, 0, none⟩)) (h := ?_)
    refine F.mv (v := .string (AmountText_v0 v14 u15)) (h := ?_)
    refine W.sc (vs := [.pointer (some ⟨b3, 0, none⟩), .string (AmountText_v0 v14 u15), .string (⟨#[48, 32, 108, 109, 47, 51]⟩ : ByteArray)]) rfl rfl (by kernel_rfl) (by kernel_rfl) (by kernel_rfl) rfl (spoilt_any b3 w.heap.size ((0 + 12) + 2) (AmountText_v0 v14 u15) (⟨#[48, 32, 108, 109, 47, 51]⟩ : ByteArray) _ x33 (by omega) (by omega) (by decide)) ?_
    rintro e w42 ⟨s39, rfl, hx40, x44, g43⟩
    have s45 := SG.of_grown s38 g43 (.inl rfl)
    refine ⟨_, rfl, s45, ?_⟩
    refine F.nx ?_
    refine F.as (v := .string s39) (h := ?_)
    refine F.endF [(0, .slice A n c), (2, .string (⟨#[]⟩ : ByteArray)), (3, .pointer (some ⟨b3, 0, none⟩)), (4, .string s39), (16, .bool true)] (fun U46 => ?_)
    have c47 := (SG.belowR c37 s45 (fun kq e => by cases e; exact lo9))
    refine h4 _ _ ?_
    refine wp_seq_k (fun K6 h6 => ?_)
    refine W.region_quiet [(0, false), (1, false)] (by kernel_rfl) ?_
    refine F.mv (v := .string s39) (h := ?_)
    refine F.as (v := .string s39) (h := ?_)
    refine F.endF [(0, .slice A n c), (2, .string s39), (3, .pointer (some ⟨b3, 0, none⟩)), (4, .string s39), (16, .bool true)] (fun U48 => ?_)
    refine h6 _ _ ?_
    refine wp_ret ?_
    try simp only [Exit.then]
    refine ret1 (v := .string s39) rfl (by kernel_rfl) ?_
    exact ⟨_, rfl, by omega, c47⟩
  · rw [q35]
    refine F.endF [(0, .slice A n c), (2, .string (⟨#[]⟩ : ByteArray)), (3, .pointer (some ⟨b3, 0, none⟩)), (4, .string (AmountText_v0 v14 u15)), (16, .bool false)] (fun U49 => ?_)
    have c50 := (SG.belowR c26 s34 (fun kq e => by cases e; exact lo9))
    refine h5 _ _ ?_
    refine wp_cond_false (by kernel_rfl) ?_
    refine wp_skip ?_
    refine h4 _ _ ?_
    refine wp_seq_k (fun K7 h7 => ?_)
    refine W.region_quiet [(0, false), (1, false)] (by kernel_rfl) ?_
    refine F.mv (v := .string (AmountText_v0 v14 u15)) (h := ?_)
    refine F.as (v := .string (AmountText_v0 v14 u15)) (h := ?_)
    refine F.endF [(0, .slice A n c), (2, .string (AmountText_v0 v14 u15)), (3, .pointer (some ⟨b3, 0, none⟩)), (4, .string (AmountText_v0 v14 u15)), (16, .bool false)] (fun U51 => ?_)
    refine h7 _ _ ?_
    refine wp_ret ?_
    try simp only [Exit.then]
    refine ret1 (v := .string (AmountText_v0 v14 u15)) rfl (by kernel_rfl) ?_
    exact ⟨_, rfl, by omega, c50⟩

set_option maxRecDepth 100000 in
set_option maxHeartbeats 8000000 in
theorem DrawConvertAmount_any (A : Option Addr) (n c : Nat) (zs : List Int) (w : World) (hcode : Rd w 1 A n (bytesV zs)) (hz : ∀ z ∈ zs, 0 ≤ z ∧ z < 256) (hn : n ≤ 4611686018427387904) :
    Calls Tryd.prog 37 #[.slice A n c] w fun e w' => ∃ v u k : Int, e = .returned (.tuple #[.agg #[.int .i64 v, .int .i64 u], .int .i64 k]) ∧ Below w.heap.size w w' := by
  have hl := rd_bytes_len hcode
  go_enter Tryd.func37, Tryd.ntmps37
  refine wp_seq_k (fun K1 h1 => ?_)
  refine W.region_plain (row := none) [(0, true), (1, false)] (by kernel_rfl) ?_
  have s1 := SG.self w none
  refine W.sn (fun b => .pointer (some ⟨b, 0, none⟩)) #[.int .i64 0, .int .i64 0] 26 s1 rfl (by kernel_rfl) rfl (fun _ => by kernel_rfl) (fun b2 w3 hb4 k5 x6 s7 => ?_)
  have lo8 : w.heap.size ≤ b2 := Nat.le_trans ((SG.belowR (Below.refl _ _) s1 (fun kq e => by cases e))).size (Nat.le_of_eq hb4)
  refine W.as (v := .int .i64 0) (h := ?_)
  refine W.endF 14 [(0, .slice A n c), (2, .pointer (some ⟨b2, 0, none⟩)), (3, .int .i64 0)] (fun U9 => ?_)
  have c10 := (SG.belowR (Below.refl _ _) s7 (fun kq e => by cases e))
  refine h1 _ _ ?_
  refine wp_seq_k (fun K2 h2 => ?_)
  refine W.region_plain (row := none) [(0, false), (1, false), (2, true), (3, false)] (by kernel_rfl) ?_
  have s11 := SG.self w3 none
  refine F.mv (v := .slice A n c) (h := ?_)
  refine F.q (v := .agg #[.slice A n c, .int .i64 0, .int .u64 0]) (hr := (r_build rfl (vs := [(0, .slice A n c)]) (by kernel_rfl) (by kernel_rfl))) (h := ?_)
  refine W.sn (fun b => .pointer (some ⟨b, 0, none⟩)) #[.slice A n c, .int .i64 0, .int .u64 0] 84 s11 rfl (by kernel_rfl) rfl (fun _ => by kernel_rfl) (fun b12 w13 hb14 k15 x16 s17 => ?_)
  refine F.nx ?_
  have lo18 : w.heap.size ≤ b12 := Nat.le_trans ((SG.belowR c10 s11 (fun kq e => by cases e))).size (Nat.le_of_eq hb14)
  have ne19 : b2 ≠ b12 := Nat.ne_of_lt (Nat.lt_of_lt_of_eq (Nat.lt_of_lt_of_le (blk_lt x6) (s11).size) hb14)
  have x20 := Cur.new x16 hcode hz hn ((SG.belowR c10 s17 (fun kq e => by cases e))) lo18
  have hN : w.heap.size ≤ w.heap.size := Nat.le_refl _
  refine F.as (v := .pointer (some ⟨b12, 0, none⟩)) (h := ?_)
  refine F.endF [(0, .slice A n c), (2, .pointer (some ⟨b2, 0, none⟩)), (3, .int .i64 0), (4, .pointer (some ⟨b12, 0, none⟩))] (fun U21 => ?_)
  have x6 := SG.blk s17 x6 (Option.some_ne_none _)
  have c22 := (SG.belowR c10 s17 (fun kq e => by cases e))
  refine h2 _ _ ?_
  refine wp_seq_k (fun K3 h3 => ?_)
  refine W.region_plain (row := (some b12)) [(0, false), (1, true), (2, true), (3, true)] (by kernel_rfl) ?_
  have s23 := SG.self w13 (some b12)
  refine F.mv (v := .pointer (some ⟨b12, 0, none⟩)) (h := ?_)
  refine W.sc (vs := [.pointer (some ⟨b12, 0, none⟩)]) rfl rfl (by kernel_rfl) (by kernel_rfl) (by kernel_rfl) rfl (amount_any b12 w.heap.size 0  _ x20 (by omega) ) ?_
  rintro e w28 ⟨v24, u25, rfl, hx26, x30, g29⟩
  have s31 := SG.of_grown s23 g29 (.inl rfl)
  refine ⟨_, rfl, s31, ?_⟩
  refine F.nx ?_
  refine W.sn (fun b => .pointer (some ⟨b, 0, none⟩)) #[.int .i64 0, .int .i64 0] 26 s31 rfl (by kernel_rfl) rfl (fun _ => by kernel_rfl) (fun b32 w33 hb34 k35 x36 s37 => ?_)
  refine F.nx ?_
  have lo38 : w.heap.size ≤ b32 := Nat.le_trans ((SG.belowR c22 s31 (fun kq e => by cases e; exact lo18))).size (Nat.le_of_eq hb34)
  have ne39 : b2 ≠ b32 := Nat.ne_of_lt (Nat.lt_of_lt_of_eq (Nat.lt_of_lt_of_le (blk_lt x6) (s31).size) hb34)
  have ne40 : b12 ≠ b32 := Nat.ne_of_lt (Nat.lt_of_lt_of_eq (Cur.lt x30) hb34)
  have x30 := Cur.below x30 k35
  refine W.ss (v := .agg #[.int .i64 v24, .int .i64 u25]) (j := 0) (news := [.int .i64 v24, .int .i64 u25]) (cs' := #[.int .i64 v24, .int .i64 u25]) s37 rfl (by kernel_rfl) rfl rfl (by kernel_rfl) (by kernel_rfl) x36 (by kernel_rfl) (by kernel_rfl) (by simp) (by kernel_rfl) (by kernel_rfl) (.inr (Nat.le_trans (s31).size (Nat.le_of_eq hb34))) (fun w41 g42 x43 s44 => ?_)
  have x30 := Cur.grown x30 g42 (fun e9 => ne40 (Option.some.inj e9)) (fun j e => by cases e; exact Nat.le_trans hN lo38)
  refine F.endF [(0, .slice A n c), (2, .pointer (some ⟨b2, 0, none⟩)), (3, .int .i64 0), (4, .pointer (some ⟨b12, 0, none⟩)), (5, .pointer (some ⟨b32, 0, none⟩))] (fun U45 => ?_)
  have x6 := SG.blk s44 x6 (fun e9 => ne19 (Option.some.inj e9))
  have c46 := (SG.belowR c22 s44 (fun kq e => by cases e; exact lo18))
  refine h3 _ _ ?_
  refine wp_seq_k (fun K4 h4 => ?_)
  refine M.region_sch (row := [(some b12), (some b2)]) (Sch.of [(0, false), (1, false), (2, true), (3, true), (4, false)]) (by kernel_rfl) (by kernel_rfl) (fun _ d _ _ _ h => by cases d <;> exact h) (by kernel_rfl) (fun w47 e48 s49 => ?_)
  have x50 := Cur.heap x30 e48
  have x51 := (heap_same e48 x6)
  refine F.q (v := .agg #[.int .i64 v24, .int .i64 u25]) (hr := (r_load2 rfl (ev_any (by kernel_rfl)) (by kernel_rfl) (by kernel_rfl) (smS (blk_cell (j := 0) x43 (by kernel_rfl)) (ne2 (fun e9 => ne40 (Option.some.inj e9).symm) (fun e9 => ne39 (Option.some.inj e9).symm))) (smS (blk_cell (j := 1) x43 (by kernel_rfl)) (ne2 (fun e9 => ne40 (Option.some.inj e9).symm) (fun e9 => ne39 (Option.some.inj e9).symm))))) (h := ?_)
  refine F.mv (v := .pointer (some ⟨b12, 0, none⟩)) (h := ?_)
  refine W.sc (vs := [.pointer (some ⟨b12, 0, none⟩)]) rfl rfl (by kernel_rfl) (by kernel_rfl) (by kernel_rfl) rfl (unit_any b12 w.heap.size (0 + 12)  _ x50 (by omega) ) ?_
  rintro e w55 ⟨x52, rfl, hx53, x57, g56⟩
  have s58 := SM.of_grown s49 g56 (.inl (by simp))
  refine ⟨_, rfl, s58, ?_⟩
  refine F.nx ?_
  have x51 := (g56.block _ (blk_lt x51) (fun e9 => ne19 (Option.some.inj e9))).trans x51
  refine M.ss (v := .agg #[.int .i64 v24, .int .i64 u25]) (j := 0) (news := [.int .i64 v24, .int .i64 u25]) (cs' := #[.int .i64 v24, .int .i64 u25]) s58 rfl (by kernel_rfl) rfl rfl (by kernel_rfl) (by kernel_rfl) x51 (by kernel_rfl) (by kernel_rfl) (by simp) (by kernel_rfl) (by kernel_rfl) (.inl (by simp)) (fun w59 g60 x61 s62 => ?_)
  have x57 := Cur.grown x57 g60 (fun e9 => ne19 (Option.some.inj e9).symm) (fun j e => by cases e; exact Nat.le_trans hN lo8)
  refine F.as (v := .int .i64 x52) (h := ?_)
  refine F.endF [(0, .slice A n c), (2, .pointer (some ⟨b2, 0, none⟩)), (3, .int .i64 x52), (4, .pointer (some ⟨b12, 0, none⟩)), (5, .pointer (some ⟨b32, 0, none⟩))] (fun U63 => ?_)
  have x43 := SM.blk s62 x43 (ne2 (fun e9 => ne40 (Option.some.inj e9).symm) (fun e9 => ne39 (Option.some.inj e9).symm))
  have c64 := (SM.belowR c46 s62 (in2 (fun kq e => (by cases e; exact lo18)) (fun kq e => (by cases e; exact lo8))))
  refine h4 _ _ ?_
  refine wp_ret ?_
  try simp only [Exit.then]
  refine retCT (x := .int .i64 x52) rfl (by kernel_rfl) (by kernel_rfl) (by kernel_rfl) (by kernel_rfl) x61 ?_
  exact ⟨_, _, _, rfl, c64⟩

set_option maxRecDepth 100000 in
set_option maxHeartbeats 8000000 in
theorem DrawAddAmounts_any (A : Option Addr) (n c : Nat) (zs : List Int) (w : World) (hcode : Rd w 1 A n (bytesV zs)) (hz : ∀ z ∈ zs, 0 ≤ z ∧ z < 256) (hn : n ≤ 4611686018427387904) :
    Calls Tryd.prog 38 #[.slice A n c] w fun e w' => ∃ v u x y k : Int, e = .returned (.tuple #[.agg #[.int .i64 v, .int .i64 u], .agg #[.int .i64 x, .int .i64 y], .int .i64 k]) ∧ Below w.heap.size w w' := by
  have hl := rd_bytes_len hcode
  go_enter Tryd.func38, Tryd.ntmps38
  refine wp_seq_k (fun K1 h1 => ?_)
  refine W.region_plain (row := none) [(0, true), (1, true), (2, false)] (by kernel_rfl) ?_
  have s1 := SG.self w none
  refine W.sn (fun b => .pointer (some ⟨b, 0, none⟩)) #[.int .i64 0, .int .i64 0] 26 s1 rfl (by kernel_rfl) rfl (fun _ => by kernel_rfl) (fun b2 w3 hb4 k5 x6 s7 => ?_)
  have lo8 : w.heap.size ≤ b2 := Nat.le_trans ((SG.belowR (Below.refl _ _) s1 (fun kq e => by cases e))).size (Nat.le_of_eq hb4)
  refine W.sn (fun b => .pointer (some ⟨b, 0, none⟩)) #[.int .i64 0, .int .i64 0] 26 s7 rfl (by kernel_rfl) rfl (fun _ => by kernel_rfl) (fun b9 w10 hb11 k12 x13 s14 => ?_)
  have lo15 : w.heap.size ≤ b9 := Nat.le_trans ((SG.belowR (Below.refl _ _) s7 (fun kq e => by cases e))).size (Nat.le_of_eq hb11)
  have ne16 : b2 ≠ b9 := Nat.ne_of_lt (Nat.lt_of_lt_of_eq (blk_lt x6) hb11)
  have x6 := (k12.block _ (blk_lt x6)).trans x6
  refine W.as (v := .int .i64 0) (h := ?_)
  refine W.endF 15 [(0, .slice A n c), (2, .pointer (some ⟨b2, 0, none⟩)), (3, .pointer (some ⟨b9, 0, none⟩)), (4, .int .i64 0)] (fun U17 => ?_)
  have c18 := (SG.belowR (Below.refl _ _) s14 (fun kq e => by cases e))
  refine h1 _ _ ?_
  refine wp_seq_k (fun K2 h2 => ?_)
  refine W.region_plain (row := none) [(0, false), (1, false), (2, true), (3, false)] (by kernel_rfl) ?_
  have s19 := SG.self w10 none
  refine F.mv (v := .slice A n c) (h := ?_)
  refine F.q (v := .agg #[.slice A n c, .int .i64 0, .int .u64 0]) (hr := (r_build rfl (vs := [(0, .slice A n c)]) (by kernel_rfl) (by kernel_rfl))) (h := ?_)
  refine W.sn (fun b => .pointer (some ⟨b, 0, none⟩)) #[.slice A n c, .int .i64 0, .int .u64 0] 84 s19 rfl (by kernel_rfl) rfl (fun _ => by kernel_rfl) (fun b20 w21 hb22 k23 x24 s25 => ?_)
  refine F.nx ?_
  have lo26 : w.heap.size ≤ b20 := Nat.le_trans ((SG.belowR c18 s19 (fun kq e => by cases e))).size (Nat.le_of_eq hb22)
  have ne27 : b2 ≠ b20 := Nat.ne_of_lt (Nat.lt_of_lt_of_eq (Nat.lt_of_lt_of_le (blk_lt x6) (s19).size) hb22)
  have ne28 : b9 ≠ b20 := Nat.ne_of_lt (Nat.lt_of_lt_of_eq (Nat.lt_of_lt_of_le (blk_lt x13) (s19).size) hb22)
  have x29 := Cur.new x24 hcode hz hn ((SG.belowR c18 s25 (fun kq e => by cases e))) lo26
  have hN : w.heap.size ≤ w.heap.size := Nat.le_refl _
  refine F.as (v := .pointer (some ⟨b20, 0, none⟩)) (h := ?_)
  refine F.endF [(0, .slice A n c), (2, .pointer (some ⟨b2, 0, none⟩)), (3, .pointer (some ⟨b9, 0, none⟩)), (4, .int .i64 0), (5, .pointer (some ⟨b20, 0, none⟩))] (fun U30 => ?_)
  have x6 := SG.blk s25 x6 (Option.some_ne_none _)
  have x13 := SG.blk s25 x13 (Option.some_ne_none _)
  have c31 := (SG.belowR c18 s25 (fun kq e => by cases e))
  refine h2 _ _ ?_
  refine wp_seq_k (fun K3 h3 => ?_)
  refine M.region_plain (row := [(some b20), (some b2), (some b9)]) [(0, false), (1, true), (2, false), (3, true), (4, false), (5, true), (6, true), (7, true), (8, false)] (by kernel_rfl) ?_
  have s32 := SM.self w21 [(some b20), (some b2), (some b9)]
  refine F.mv (v := .pointer (some ⟨b20, 0, none⟩)) (h := ?_)
  refine W.sc (vs := [.pointer (some ⟨b20, 0, none⟩)]) rfl rfl (by kernel_rfl) (by kernel_rfl) (by kernel_rfl) rfl (amount_any b20 w.heap.size 0  _ x29 (by omega) ) ?_
  rintro e w37 ⟨v33, u34, rfl, hx35, x39, g38⟩
  have s40 := SM.of_grown s32 g38 (.inl (by simp))
  refine ⟨_, rfl, s40, ?_⟩
  refine F.nx ?_
  have x6 := (g38.block _ (blk_lt x6) (fun e9 => ne27 (Option.some.inj e9))).trans x6
  have x13 := (g38.block _ (blk_lt x13) (fun e9 => ne28 (Option.some.inj e9))).trans x13
  refine F.mv (v := .pointer (some ⟨b20, 0, none⟩)) (h := ?_)
  refine W.sc (vs := [.pointer (some ⟨b20, 0, none⟩)]) rfl rfl (by kernel_rfl) (by kernel_rfl) (by kernel_rfl) rfl (amount_any b20 w.heap.size (0 + 12)  _ x39 (by omega) ) ?_
  rintro e w45 ⟨v41, u42, rfl, hx43, x47, g46⟩
  have s48 := SM.of_grown s40 g46 (.inl (by simp))
  refine ⟨_, rfl, s48, ?_⟩
  refine F.nx ?_
  have x6 := (g46.block _ (blk_lt x6) (fun e9 => ne27 (Option.some.inj e9))).trans x6
  have x13 := (g46.block _ (blk_lt x13) (fun e9 => ne28 (Option.some.inj e9))).trans x13
  refine F.mv (v := .pointer (some ⟨b20, 0, none⟩)) (h := ?_)
  refine W.sc (vs := [.pointer (some ⟨b20, 0, none⟩)]) rfl rfl (by kernel_rfl) (by kernel_rfl) (by kernel_rfl) rfl (unit_any b20 w.heap.size ((0 + 12) + 12)  _ x47 (by omega) ) ?_
  rintro e w52 ⟨x49, rfl, hx50, x54, g53⟩
  have s55 := SM.of_grown s48 g53 (.inl (by simp))
  refine ⟨_, rfl, s55, ?_⟩
  refine F.nx ?_
  have x6 := (g53.block _ (blk_lt x6) (fun e9 => ne27 (Option.some.inj e9))).trans x6
  have x13 := (g53.block _ (blk_lt x13) (fun e9 => ne28 (Option.some.inj e9))).trans x13
  refine M.ss (v := .agg #[.int .i64 v33, .int .i64 u34]) (j := 0) (news := [.int .i64 v33, .int .i64 u34]) (cs' := #[.int .i64 v33, .int .i64 u34]) s55 rfl (by kernel_rfl) rfl rfl (by kernel_rfl) (by kernel_rfl) x6 (by kernel_rfl) (by kernel_rfl) (by simp) (by kernel_rfl) (by kernel_rfl) (.inl (by simp)) (fun w56 g57 x58 s59 => ?_)
  have x13 := (g57.block _ (blk_lt x13) (fun e9 => ne16 (Option.some.inj e9).symm)).trans x13
  have x54 := Cur.grown x54 g57 (fun e9 => ne27 (Option.some.inj e9).symm) (fun j e => by cases e; exact Nat.le_trans hN lo8)
  refine M.ss (v := .agg #[.int .i64 v41, .int .i64 u42]) (j := 0) (news := [.int .i64 v41, .int .i64 u42]) (cs' := #[.int .i64 v41, .int .i64 u42]) s59 rfl (by kernel_rfl) rfl rfl (by kernel_rfl) (by kernel_rfl) x13 (by kernel_rfl) (by kernel_rfl) (by simp) (by kernel_rfl) (by kernel_rfl) (.inl (by simp)) (fun w60 g61 x62 s63 => ?_)
  have x58 := (g61.block _ (blk_lt x58) (fun e9 => ne16 (Option.some.inj e9))).trans x58
  have x54 := Cur.grown x54 g61 (fun e9 => ne28 (Option.some.inj e9).symm) (fun j e => by cases e; exact Nat.le_trans hN lo15)
  refine F.as (v := .int .i64 x49) (h := ?_)
  refine F.endF [(0, .slice A n c), (2, .pointer (some ⟨b2, 0, none⟩)), (3, .pointer (some ⟨b9, 0, none⟩)), (4, .int .i64 x49), (5, .pointer (some ⟨b20, 0, none⟩))] (fun U64 => ?_)
  have c65 := (SM.belowR c31 s63 (in3 (fun kq e => (by cases e; exact lo26)) (fun kq e => (by cases e; exact lo8)) (fun kq e => (by cases e; exact lo15))))
  refine h3 _ _ ?_
  refine wp_ret ?_
  try simp only [Exit.then]
  refine retCCT (x2 := .int .i64 x49) rfl (by kernel_rfl) (by kernel_rfl) (by kernel_rfl) x58 (by kernel_rfl) (by kernel_rfl) (by kernel_rfl) x62 (by kernel_rfl) ?_
  exact ⟨_, _, _, _, _, rfl, c65⟩

set_option maxRecDepth 100000 in
set_option maxHeartbeats 8000000 in
theorem DrawCompareAmounts_any (A : Option Addr) (n c : Nat) (zs : List Int) (w : World) (hcode : Rd w 1 A n (bytesV zs)) (hz : ∀ z ∈ zs, 0 ≤ z ∧ z < 256) (hn : n ≤ 4611686018427387904) :
    Calls Tryd.prog 39 #[.slice A n c] w fun e w' => ∃ v u x y : Int, e = .returned (.tuple #[.agg #[.int .i64 v, .int .i64 u], .agg #[.int .i64 x, .int .i64 y]]) ∧ Below w.heap.size w w' := by
  have hl := rd_bytes_len hcode
  go_enter Tryd.func39, Tryd.ntmps39
  refine wp_seq_k (fun K1 h1 => ?_)
  refine W.region_plain (row := none) [(0, true), (1, true)] (by kernel_rfl) ?_
  have s1 := SG.self w none
  refine W.sn (fun b => .pointer (some ⟨b, 0, none⟩)) #[.int .i64 0, .int .i64 0] 26 s1 rfl (by kernel_rfl) rfl (fun _ => by kernel_rfl) (fun b2 w3 hb4 k5 x6 s7 => ?_)
  have lo8 : w.heap.size ≤ b2 := Nat.le_trans ((SG.belowR (Below.refl _ _) s1 (fun kq e => by cases e))).size (Nat.le_of_eq hb4)
  refine W.sn (fun b => .pointer (some ⟨b, 0, none⟩)) #[.int .i64 0, .int .i64 0] 26 s7 rfl (by kernel_rfl) rfl (fun _ => by kernel_rfl) (fun b9 w10 hb11 k12 x13 s14 => ?_)
  have lo15 : w.heap.size ≤ b9 := Nat.le_trans ((SG.belowR (Below.refl _ _) s7 (fun kq e => by cases e))).size (Nat.le_of_eq hb11)
  have ne16 : b2 ≠ b9 := Nat.ne_of_lt (Nat.lt_of_lt_of_eq (blk_lt x6) hb11)
  have x6 := (k12.block _ (blk_lt x6)).trans x6
  refine W.endF 21 [(0, .slice A n c), (2, .pointer (some ⟨b2, 0, none⟩)), (3, .pointer (some ⟨b9, 0, none⟩))] (fun U17 => ?_)
  have c18 := (SG.belowR (Below.refl _ _) s14 (fun kq e => by cases e))
  refine h1 _ _ ?_
  refine wp_seq_k (fun K2 h2 => ?_)
  refine W.region_plain (row := none) [(0, false), (1, false), (2, true), (3, false)] (by kernel_rfl) ?_
  have s19 := SG.self w10 none
  refine F.mv (v := .slice A n c) (h := ?_)
  refine F.q (v := .agg #[.slice A n c, .int .i64 0, .int .u64 0]) (hr := (r_build rfl (vs := [(0, .slice A n c)]) (by kernel_rfl) (by kernel_rfl))) (h := ?_)
  refine W.sn (fun b => .pointer (some ⟨b, 0, none⟩)) #[.slice A n c, .int .i64 0, .int .u64 0] 84 s19 rfl (by kernel_rfl) rfl (fun _ => by kernel_rfl) (fun b20 w21 hb22 k23 x24 s25 => ?_)
  refine F.nx ?_
  have lo26 : w.heap.size ≤ b20 := Nat.le_trans ((SG.belowR c18 s19 (fun kq e => by cases e))).size (Nat.le_of_eq hb22)
  have ne27 : b2 ≠ b20 := Nat.ne_of_lt (Nat.lt_of_lt_of_eq (Nat.lt_of_lt_of_le (blk_lt x6) (s19).size) hb22)
  have ne28 : b9 ≠ b20 := Nat.ne_of_lt (Nat.lt_of_lt_of_eq (Nat.lt_of_lt_of_le (blk_lt x13) (s19).size) hb22)
  have x29 := Cur.new x24 hcode hz hn ((SG.belowR c18 s25 (fun kq e => by cases e))) lo26
  have hN : w.heap.size ≤ w.heap.size := Nat.le_refl _
  refine F.as (v := .pointer (some ⟨b20, 0, none⟩)) (h := ?_)
  refine F.endF [(0, .slice A n c), (2, .pointer (some ⟨b2, 0, none⟩)), (3, .pointer (some ⟨b9, 0, none⟩)), (4, .pointer (some ⟨b20, 0, none⟩))] (fun U30 => ?_)
  have x6 := SG.blk s25 x6 (Option.some_ne_none _)
  have x13 := SG.blk s25 x13 (Option.some_ne_none _)
  have c31 := (SG.belowR c18 s25 (fun kq e => by cases e))
  refine h2 _ _ ?_
  refine wp_seq_k (fun K3 h3 => ?_)
  refine W.region_plain (row := (some b20)) [(0, false), (1, true), (2, true), (3, true)] (by kernel_rfl) ?_
  have s32 := SG.self w21 (some b20)
  refine F.mv (v := .pointer (some ⟨b20, 0, none⟩)) (h := ?_)
  refine W.sc (vs := [.pointer (some ⟨b20, 0, none⟩)]) rfl rfl (by kernel_rfl) (by kernel_rfl) (by kernel_rfl) rfl (amount_any b20 w.heap.size 0  _ x29 (by omega) ) ?_
  rintro e w37 ⟨v33, u34, rfl, hx35, x39, g38⟩
  have s40 := SG.of_grown s32 g38 (.inl rfl)
  refine ⟨_, rfl, s40, ?_⟩
  refine F.nx ?_
  refine W.sn (fun b => .pointer (some ⟨b, 0, none⟩)) #[.int .i64 0, .int .i64 0] 26 s40 rfl (by kernel_rfl) rfl (fun _ => by kernel_rfl) (fun b41 w42 hb43 k44 x45 s46 => ?_)
  refine F.nx ?_
  have lo47 : w.heap.size ≤ b41 := Nat.le_trans ((SG.belowR c31 s40 (fun kq e => by cases e; exact lo26))).size (Nat.le_of_eq hb43)
  have ne48 : b2 ≠ b41 := Nat.ne_of_lt (Nat.lt_of_lt_of_eq (Nat.lt_of_lt_of_le (blk_lt x6) (s40).size) hb43)
  have ne49 : b9 ≠ b41 := Nat.ne_of_lt (Nat.lt_of_lt_of_eq (Nat.lt_of_lt_of_le (blk_lt x13) (s40).size) hb43)
  have ne50 : b20 ≠ b41 := Nat.ne_of_lt (Nat.lt_of_lt_of_eq (Cur.lt x39) hb43)
  have x39 := Cur.below x39 k44
  refine W.ss (v := .agg #[.int .i64 v33, .int .i64 u34]) (j := 0) (news := [.int .i64 v33, .int .i64 u34]) (cs' := #[.int .i64 v33, .int .i64 u34]) s46 rfl (by kernel_rfl) rfl rfl (by kernel_rfl) (by kernel_rfl) x45 (by kernel_rfl) (by kernel_rfl) (by simp) (by kernel_rfl) (by kernel_rfl) (.inr (Nat.le_trans (s40).size (Nat.le_of_eq hb43))) (fun w51 g52 x53 s54 => ?_)
  have x39 := Cur.grown x39 g52 (fun e9 => ne50 (Option.some.inj e9)) (fun j e => by cases e; exact Nat.le_trans hN lo47)
  refine F.endF [(0, .slice A n c), (2, .pointer (some ⟨b2, 0, none⟩)), (3, .pointer (some ⟨b9, 0, none⟩)), (4, .pointer (some ⟨b20, 0, none⟩)), (5, .pointer (some ⟨b41, 0, none⟩))] (fun U55 => ?_)
  have x6 := SG.blk s54 x6 (fun e9 => ne27 (Option.some.inj e9))
  have x13 := SG.blk s54 x13 (fun e9 => ne28 (Option.some.inj e9))
  have c56 := (SG.belowR c31 s54 (fun kq e => by cases e; exact lo26))
  refine h3 _ _ ?_
  refine wp_seq_k (fun K4 h4 => ?_)
  refine wp_seq_k (fun K5 h5 => ?_)
  refine W.region_plain (row := (some b20)) [(0, false), (1, true)] (by kernel_rfl) ?_
  have s57 := SG.self w51 (some b20)
  refine F.mv (v := .pointer (some ⟨b20, 0, none⟩)) (h := ?_)
  refine W.sc (vs := [.pointer (some ⟨b20, 0, none⟩), .int .i64 3]) rfl rfl (by kernel_rfl) (by kernel_rfl) (by kernel_rfl) rfl (one_any b20 w.heap.size (0 + 12) 3 _ x39 (by omega) (by omega)) ?_
  rintro e w61 ⟨b58, rfl, _, x63, g62⟩
  have s64 := SG.of_grown s57 g62 (.inl rfl)
  refine ⟨_, rfl, s64, ?_⟩
  refine F.nx ?_
  rcases Bool.eq_false_or_eq_true b58 with q65 | q65
  · rw [q65]
    refine F.endF [(0, .slice A n c), (2, .pointer (some ⟨b2, 0, none⟩)), (3, .pointer (some ⟨b9, 0, none⟩)), (4, .pointer (some ⟨b20, 0, none⟩)), (5, .pointer (some ⟨b41, 0, none⟩)), (12, .bool true)] (fun U66 => ?_)
    have x6 := SG.blk s64 x6 (fun e9 => ne27 (Option.some.inj e9))
    have x13 := SG.blk s64 x13 (fun e9 => ne28 (Option.some.inj e9))
    have x53 := SG.blk s64 x53 (fun e9 => ne50 (Option.some.inj e9).symm)
    have c67 := (SG.belowR c56 s64 (fun kq e => by cases e; exact lo26))
    refine h5 _ _ ?_
    refine wp_cond_true (by kernel_rfl) ?_
    refine wp_seq_k (fun K6 h6 => ?_)
    refine M.region_sch (row := [(some b2), (some b9)]) (Sch.of [(0, false), (1, false), (2, false), (3, false), (4, false), (5, true), (6, true)]) (by kernel_rfl) (by kernel_rfl) (fun _ d _ _ _ h => by cases d <;> exact h) (by kernel_rfl) (fun w68 e69 s70 => ?_)
    have x71 := (heap_same e69 x6)
    have x72 := (heap_same e69 x13)
    refine F.q (v := .agg #[.int .i64 v33, .int .i64 u34]) (hr := (r_load2 rfl (ev_any (by kernel_rfl)) (by kernel_rfl) (by kernel_rfl) (smS (blk_cell (j := 0) x53 (by kernel_rfl)) (ne2 (fun e9 => ne48 (Option.some.inj e9).symm) (fun e9 => ne49 (Option.some.inj e9).symm))) (smS (blk_cell (j := 1) x53 (by kernel_rfl)) (ne2 (fun e9 => ne48 (Option.some.inj e9).symm) (fun e9 => ne49 (Option.some.inj e9).symm))))) (h := ?_)
    refine F.q (v := .pointer (some ⟨b41, 0, none⟩)) (hr := (r_field0 rfl (ev_any (by kernel_rfl)) (by kernel_rfl))) (h := ?_)
    refine F.ld (v := .int .i64 v33) (hc := (smS (blk_cell (j := 0) x53 (by kernel_rfl)) (ne2 (fun e9 => ne48 (Option.some.inj e9).symm) (fun e9 => ne49 (Option.some.inj e9).symm)))) (h := ?_)
    refine F.q (v := .int .i64 (v33 * 60)) (hr := (r_mulK (k := .i64) (m := v33) (n := 60) (z := (v33 * 60)) rfl (ev_any (by kernel_rfl)) (ev_any (by kernel_rfl)) (wrap_i64 (by omega) (by omega)))) (h := ?_)
    refine F.q (v := .agg #[.int .i64 (v33 * 60), .int .i64 1]) (hr := (r_build rfl (vs := [(0, .int .i64 (v33 * 60)), (1, .int .i64 1)]) (by kernel_rfl) (by kernel_rfl))) (h := ?_)
    refine M.ss (v := .agg #[.int .i64 v33, .int .i64 u34]) (j := 0) (news := [.int .i64 v33, .int .i64 u34]) (cs' := #[.int .i64 v33, .int .i64 u34]) s70 rfl (by kernel_rfl) rfl rfl (by kernel_rfl) (by kernel_rfl) x71 (by kernel_rfl) (by kernel_rfl) (by simp) (by kernel_rfl) (by kernel_rfl) (.inl (by simp)) (fun w73 g74 x75 s76 => ?_)
    have x72 := (g74.block _ (blk_lt x72) (fun e9 => ne16 (Option.some.inj e9).symm)).trans x72
    refine M.ss (v := .agg #[.int .i64 (v33 * 60), .int .i64 1]) (j := 0) (news := [.int .i64 (v33 * 60), .int .i64 1]) (cs' := #[.int .i64 (v33 * 60), .int .i64 1]) s76 rfl (by kernel_rfl) rfl rfl (by kernel_rfl) (by kernel_rfl) x72 (by kernel_rfl) (by kernel_rfl) (by simp) (by kernel_rfl) (by kernel_rfl) (.inl (by simp)) (fun w77 g78 x79 s80 => ?_)
    have x75 := (g78.block _ (blk_lt x75) (fun e9 => ne16 (Option.some.inj e9))).trans x75
    refine F.endF [(0, .slice A n c), (2, .pointer (some ⟨b2, 0, none⟩)), (3, .pointer (some ⟨b9, 0, none⟩)), (4, .pointer (some ⟨b20, 0, none⟩)), (5, .pointer (some ⟨b41, 0, none⟩)), (12, .bool true)] (fun U81 => ?_)
    have x63 := Cur.sm x63 s80 (ne2 (fun e9 => ne27 (Option.some.inj e9).symm) (fun e9 => ne28 (Option.some.inj e9).symm)) (in2 (fun j e => by cases e; exact Nat.le_trans hN lo8) (fun j e => by cases e; exact Nat.le_trans hN lo15))
    have x53 := SM.blk s80 x53 (ne2 (fun e9 => ne48 (Option.some.inj e9).symm) (fun e9 => ne49 (Option.some.inj e9).symm))
    have c82 := (SM.belowR c67 s80 (in2 (fun kq e => (by cases e; exact lo8)) (fun kq e => (by cases e; exact lo15))))
    refine h6 _ _ ?_
    refine wp_ret ?_
    try simp only [Exit.then]
    refine retCC  rfl (by kernel_rfl) (by kernel_rfl) (by kernel_rfl) x75 (by kernel_rfl) (by kernel_rfl) (by kernel_rfl) x79 ?_
    exact ⟨_, _, _, _, rfl, c82⟩
  · rw [q65]
    refine F.endF [(0, .slice A n c), (2, .pointer (some ⟨b2, 0, none⟩)), (3, .pointer (some ⟨b9, 0, none⟩)), (4, .pointer (some ⟨b20, 0, none⟩)), (5, .pointer (some ⟨b41, 0, none⟩)), (12, .bool false)] (fun U83 => ?_)
    have x6 := SG.blk s64 x6 (fun e9 => ne27 (Option.some.inj e9))
    have x13 := SG.blk s64 x13 (fun e9 => ne28 (Option.some.inj e9))
    have x53 := SG.blk s64 x53 (fun e9 => ne50 (Option.some.inj e9).symm)
    have c84 := (SG.belowR c56 s64 (fun kq e => by cases e; exact lo26))
    refine h5 _ _ ?_
    refine wp_cond_false (by kernel_rfl) ?_
    refine wp_skip ?_
    refine h4 _ _ ?_
    refine wp_seq_k (fun K7 h7 => ?_)
    refine M.region_sch (row := [(some b20), (some b2), (some b9)]) (Sch.of [(0, false), (1, false), (2, true), (3, true), (4, true)]) (by kernel_rfl) (by kernel_rfl) (fun _ d _ _ _ h => by cases d <;> exact h) (by kernel_rfl) (fun w85 e86 s87 => ?_)
    have x88 := Cur.heap x63 e86
    have x89 := (heap_same e86 x6)
    have x90 := (heap_same e86 x13)
    refine F.q (v := .agg #[.int .i64 v33, .int .i64 u34]) (hr := (r_load2 rfl (ev_any (by kernel_rfl)) (by kernel_rfl) (by kernel_rfl) (smS (blk_cell (j := 0) x53 (by kernel_rfl)) (ne3 (fun e9 => ne50 (Option.some.inj e9).symm) (fun e9 => ne48 (Option.some.inj e9).symm) (fun e9 => ne49 (Option.some.inj e9).symm))) (smS (blk_cell (j := 1) x53 (by kernel_rfl)) (ne3 (fun e9 => ne50 (Option.some.inj e9).symm) (fun e9 => ne48 (Option.some.inj e9).symm) (fun e9 => ne49 (Option.some.inj e9).symm))))) (h := ?_)
    refine F.mv (v := .pointer (some ⟨b20, 0, none⟩)) (h := ?_)
    refine W.sc (vs := [.pointer (some ⟨b20, 0, none⟩)]) rfl rfl (by kernel_rfl) (by kernel_rfl) (by kernel_rfl) rfl (amount_any b20 w.heap.size ((0 + 12) + 2)  _ x88 (by omega) ) ?_
    rintro e w95 ⟨v91, u92, rfl, hx93, x97, g96⟩
    have s98 := SM.of_grown s87 g96 (.inl (by simp))
    refine ⟨_, rfl, s98, ?_⟩
    refine F.nx ?_
    have x89 := (g96.block _ (blk_lt x89) (fun e9 => ne27 (Option.some.inj e9))).trans x89
    have x90 := (g96.block _ (blk_lt x90) (fun e9 => ne28 (Option.some.inj e9))).trans x90
    refine M.ss (v := .agg #[.int .i64 v33, .int .i64 u34]) (j := 0) (news := [.int .i64 v33, .int .i64 u34]) (cs' := #[.int .i64 v33, .int .i64 u34]) s98 rfl (by kernel_rfl) rfl rfl (by kernel_rfl) (by kernel_rfl) x89 (by kernel_rfl) (by kernel_rfl) (by simp) (by kernel_rfl) (by kernel_rfl) (.inl (by simp)) (fun w99 g100 x101 s102 => ?_)
    have x90 := (g100.block _ (blk_lt x90) (fun e9 => ne16 (Option.some.inj e9).symm)).trans x90
    have x97 := Cur.grown x97 g100 (fun e9 => ne27 (Option.some.inj e9).symm) (fun j e => by cases e; exact Nat.le_trans hN lo8)
    refine M.ss (v := .agg #[.int .i64 v91, .int .i64 u92]) (j := 0) (news := [.int .i64 v91, .int .i64 u92]) (cs' := #[.int .i64 v91, .int .i64 u92]) s102 rfl (by kernel_rfl) rfl rfl (by kernel_rfl) (by kernel_rfl) x90 (by kernel_rfl) (by kernel_rfl) (by simp) (by kernel_rfl) (by kernel_rfl) (.inl (by simp)) (fun w103 g104 x105 s106 => ?_)
    have x101 := (g104.block _ (blk_lt x101) (fun e9 => ne16 (Option.some.inj e9))).trans x101
    have x97 := Cur.grown x97 g104 (fun e9 => ne28 (Option.some.inj e9).symm) (fun j e => by cases e; exact Nat.le_trans hN lo15)
    refine F.endF [(0, .slice A n c), (2, .pointer (some ⟨b2, 0, none⟩)), (3, .pointer (some ⟨b9, 0, none⟩)), (4, .pointer (some ⟨b20, 0, none⟩)), (5, .pointer (some ⟨b41, 0, none⟩)), (12, .bool false)] (fun U107 => ?_)
    have x53 := SM.blk s106 x53 (ne3 (fun e9 => ne50 (Option.some.inj e9).symm) (fun e9 => ne48 (Option.some.inj e9).symm) (fun e9 => ne49 (Option.some.inj e9).symm))
    have c108 := (SM.belowR c84 s106 (in3 (fun kq e => (by cases e; exact lo26)) (fun kq e => (by cases e; exact lo8)) (fun kq e => (by cases e; exact lo15))))
    refine h7 _ _ ?_
    refine wp_ret ?_
    try simp only [Exit.then]
    refine retCC  rfl (by kernel_rfl) (by kernel_rfl) (by kernel_rfl) x101 (by kernel_rfl) (by kernel_rfl) (by kernel_rfl) x105 ?_
    exact ⟨_, _, _, _, rfl, c108⟩

end Go.Proofs.YtlkphjlabmnjiaaDoor
