/- Amounts' texts: the program. -/
import Derived.Test.YtlkphjlabmnjiaaDoorNum2
import Derived.Test.YtlkphjlabmnjiaaDoorAmtR
import Derived.Lib.AtoiBound
namespace Go.Proofs.YtlkphjlabmnjiaaDoor
open Go.RowKit
set_option linter.unusedVariables false
set_option linter.unusedSimpArgs false

def Names (w : World) : Prop := ∀ k : Nat, k < 5 → w.cell? ⟨0, k, none⟩ = some (.string (unitB k))
theorem names_kept {w w' : World} (h : Names w) (b : Below w.heap.size w w') : Names w' := fun k hk => later b (h k hk)

set_option maxRecDepth 100000 in
set_option maxHeartbeats 1000000 in
theorem AmountText_impl (v u : Int) (w : World) (htab : Lib.TabIs Tryd.prog w "internal/strconv.uint64pow10" .u64 Lib.pow10Tab) (hnm : Names w) :
    Calls Tryd.prog 22 #[.agg #[.int .i64 v, .int .i64 u]] w fun e w' => e = .returned (.tuple #[.string (AmountText_v0 v u), .bool (AmountText_v1 v u)]) ∧ Below w.heap.size w w' := by
  go_enter Tryd.func22, Tryd.ntmps22
  refine wp_seq_k (fun K1 h1 => ?_)
  refine W.region_plain (row := none) [(0, true), (1, false), (2, false)] (by kernel_rfl) ?_
  have s1 := SG.self w none
  refine W.sn (fun b => .pointer (some ⟨b, 0, none⟩)) #[.int .i64 v, .int .i64 u] 26 s1 rfl (by kernel_rfl) rfl (fun _ => by kernel_rfl) (fun b2 w3 hb4 k5 x6 s7 => ?_)
  have lo8 : w.heap.size ≤ b2 := by have := ((SG.belowR (Below.refl _ _) s1 (fun kq e => by cases e))).size; omega
  refine W.as (v := .string (⟨#[]⟩ : ByteArray)) (h := ?_)
  refine W.as (v := .bool false) (h := ?_)
  refine W.endF 16 [(0, .agg #[.int .i64 v, .int .i64 u]), (1, .pointer (some ⟨b2, 0, none⟩)), (2, .string (⟨#[]⟩ : ByteArray)), (3, .bool false)] (fun U9 => ?_)
  have c10 := (SG.belowR (Below.refl _ _) s7 (fun kq e => by cases e))
  refine h1 _ _ ?_
  refine wp_seq_k (fun K2 h2 => ?_)
  refine wp_seq_k (fun K3 h3 => ?_)
  refine W.region_plain (row := none) [(0, false), (1, true), (2, false)] (by kernel_rfl) ?_
  have s11 := SG.self w3 none
  refine W.q (v := .agg #[.int .i64 v, .int .i64 u]) (hr := (r_load2 rfl (by kernel_rfl) (by kernel_rfl) (by kernel_rfl) (sgS (blk_cell (j := 0) x6 (by kernel_rfl)) (by simp)) (sgS (blk_cell (j := 1) x6 (by kernel_rfl)) (by simp)))) (h := ?_)
  refine W.sc (vs := [.agg #[.int .i64 v, .int .i64 u]]) rfl rfl (by kernel_rfl) (by kernel_rfl) (by kernel_rfl) rfl (IsValidAmount_impl v u _) ?_
  rintro e w13 ⟨rfl, b12⟩
  have s14 := SG.of_below s11 b12
  refine ⟨_, rfl, s14, ?_⟩
  rcases Bool.eq_false_or_eq_true (goodAmt v u) with q15 | q15
  · rw [q15]
    have hg9 := good_amt q15
    have hgv := hg9.1
    have hgu := hg9.2
    refine W.q (v := .bool false) (hr := (r_not (b := true) rfl (by kernel_rfl) rfl)) (h := ?_)
    refine W.endF 16 [(0, .agg #[.int .i64 v, .int .i64 u]), (1, .pointer (some ⟨b2, 0, none⟩)), (2, .string (⟨#[]⟩ : ByteArray)), (3, .bool false), (6, .bool false)] (fun U16 => ?_)
    have x6 := SG.blk s14 x6 (by simp)
    have c17 := (SG.belowR c10 s14 (fun kq e => by cases e))
    refine h3 _ _ ?_
    refine wp_cond_false (by kernel_rfl) ?_
    refine wp_skip ?_
    refine h2 _ _ ?_
    refine wp_seq_k (fun K4 h4 => ?_)
    refine W.region_sch (row := none) (Sch.of [(0, false), (1, false), (4, false), (5, false), (6, false), (7, false), (2, true), (3, false), (8, false), (9, false), (10, false)]) (by kernel_rfl) (by kernel_rfl) (fun _ d _ _ _ h => by cases d <;> exact h) (by kernel_rfl) (fun w18 e19 s20 => ?_)
    refine W.q (v := .pointer (some ⟨b2, 0, none⟩)) (hr := (r_field0 rfl (by kernel_rfl) (by kernel_rfl))) (h := ?_)
    refine W.ld (v := .int .i64 v) (hc := (sgS (blk_cell (j := 0) x6 (by kernel_rfl)) (by simp))) (h := ?_)
    refine W.q (v := .pointer (some ⟨b2, 1, none⟩)) (hr := (r_field (k := 1) rfl (by kernel_rfl) (by kernel_rfl))) (h := ?_)
    refine W.ld (v := .int .i64 u) (hc := (sgS (blk_cell (j := 1) x6 (by kernel_rfl)) (by simp))) (h := ?_)
    refine W.q (v := .pointer (some ⟨0, u.toNat, none⟩)) (hr := (r_idxA (len := 5) (k := u.toNat) rfl (by kernel_rfl) (evk (z := u) (by kernel_rfl) (by omega)) (by kernel_rfl) (by omega))) (h := ?_)
    refine W.ld (v := .string (unitB u.toNat)) (hc := (sgS (later c17 (hnm u.toNat (by omega))) (by simp))) (h := ?_)
    refine W.sc (vs := [.int .i64 v]) rfl rfl (by kernel_rfl) (by kernel_rfl) (by kernel_rfl) rfl (itoa_lib v (by omega) (by omega) _ (tab_kept htab (SG.belowR c17 s20 (fun kq e => by cases e)))) ?_
    rintro e w22 ⟨rfl, b21⟩
    have s23 := SG.of_below s20 b21
    refine ⟨_, rfl, s23, ?_⟩
    refine W.q (v := .string ((itoaB v) ++ (⟨#[32]⟩ : ByteArray))) (hr := (r_addS (s := (itoaB v)) (r := (⟨#[32]⟩ : ByteArray)) rfl (by kernel_rfl) (by kernel_rfl) (by (try simp only [ByteArray.size_append]); have := itoaB_le (n := v) (by omega) (by omega);  have h32 := size1 32; have h46 := size1 46; omega))) (h := ?_)
    refine W.q (v := .string (((itoaB v) ++ (⟨#[32]⟩ : ByteArray)) ++ (unitB u.toNat))) (hr := (r_addS (s := ((itoaB v) ++ (⟨#[32]⟩ : ByteArray))) (r := (unitB u.toNat)) rfl (by kernel_rfl) (by kernel_rfl) (by (try simp only [ByteArray.size_append]); have := itoaB_le (n := v) (by omega) (by omega); have := unitB_le u.toNat; have h32 := size1 32; have h46 := size1 46; omega))) (h := ?_)
    refine W.as (v := .string (((itoaB v) ++ (⟨#[32]⟩ : ByteArray)) ++ (unitB u.toNat))) (h := ?_)
    refine W.as (v := .bool true) (h := ?_)
    refine W.endF 16 [(0, .agg #[.int .i64 v, .int .i64 u]), (1, .pointer (some ⟨b2, 0, none⟩)), (2, .string (((itoaB v) ++ (⟨#[32]⟩ : ByteArray)) ++ (unitB u.toNat))), (3, .bool true), (6, .bool false)] (fun U24 => ?_)
    have x6 := SG.blk s23 x6 (by simp)
    have c25 := (SG.belowR c17 s23 (fun kq e => by cases e))
    refine h4 _ _ ?_
    refine wp_ret ?_
    try simp only [Exit.then]
    refine ret2 (v := .string (((itoaB v) ++ (⟨#[32]⟩ : ByteArray)) ++ (unitB u.toNat))) (x := .bool true) rfl (by kernel_rfl) (by kernel_rfl) ?_
    obtain ⟨e1, e2⟩ := at_yes q15
    exact ⟨by rw [e1, e2]; rfl, c25⟩
  · rw [q15]
    refine W.q (v := .bool true) (hr := (r_not (b := false) rfl (by kernel_rfl) rfl)) (h := ?_)
    refine W.endF 16 [(0, .agg #[.int .i64 v, .int .i64 u]), (1, .pointer (some ⟨b2, 0, none⟩)), (2, .string (⟨#[]⟩ : ByteArray)), (3, .bool false), (6, .bool true)] (fun U26 => ?_)
    have x6 := SG.blk s14 x6 (by simp)
    have c27 := (SG.belowR c10 s14 (fun kq e => by cases e))
    refine h3 _ _ ?_
    refine wp_cond_true (by kernel_rfl) ?_
    refine wp_seq_k (fun K5 h5 => ?_)
    refine W.region_quiet [(0, false), (1, false)] (by kernel_rfl) ?_
    refine W.as (v := .string (⟨#[]⟩ : ByteArray)) (h := ?_)
    refine W.as (v := .bool false) (h := ?_)
    refine W.endF 16 [(0, .agg #[.int .i64 v, .int .i64 u]), (1, .pointer (some ⟨b2, 0, none⟩)), (2, .string (⟨#[]⟩ : ByteArray)), (3, .bool false), (6, .bool true)] (fun U28 => ?_)
    refine h5 _ _ ?_
    refine wp_ret ?_
    try simp only [Exit.then]
    refine ret2 (v := .string (⟨#[]⟩ : ByteArray)) (x := .bool false) rfl (by kernel_rfl) (by kernel_rfl) ?_
    obtain ⟨e1, e2⟩ := at_no q15
    exact ⟨by rw [e1, e2], c27⟩

theorem seq_text {s : ByteArray} {n : Int} {i : Nat} (hst : standsB s 32 = true) (h1 : itoaB n = headB s 32) (h2 : unitB i = tailB s 32) : textA n i = s := by
  unfold textA
  rw [h1, h2]
  exact (head_tail (c := 32) (by omega) hst).symm

set_option maxRecDepth 100000 in
set_option maxHeartbeats 1000000 in
theorem ParseAmount_ok (s : ByteArray) (n : Int) (w : World) (hs : s.size ≤ 1048576) (hmax : MaxIs w) (htab : Lib.TabIs Tryd.prog w "internal/strconv.uint64pow10" .u64 Lib.pow10Tab) (hnm : Names w) (hev : EvIs w) (hat : Lib.atoi (headB s 32).data.toList = some n) (hnb : -9223372036854775808 ≤ n ∧ n ≤ 9223372036854775807) :
    Calls Tryd.prog 26 #[.string s] w fun e w' => e = .returned (.tuple #[.agg #[.int .i64 (ParseAmount_vv s), .int .i64 (ParseAmount_vu s)], .bool (ParseAmount_v1 s)]) ∧ Below w.heap.size w w' := by
  go_enter Tryd.func26, Tryd.ntmps26
  refine wp_seq_k (fun K1 h1 => ?_)
  refine W.region_plain (row := none) [(0, true), (1, false)] (by kernel_rfl) ?_
  have s1 := SG.self w none
  refine W.sn (fun b => .pointer (some ⟨b, 0, none⟩)) #[.int .i64 0, .int .i64 0] 26 s1 rfl (by kernel_rfl) rfl (fun _ => by kernel_rfl) (fun b2 w3 hb4 k5 x6 s7 => ?_)
  have lo8 : w.heap.size ≤ b2 := by have := ((SG.belowR (Below.refl _ _) s1 (fun kq e => by cases e))).size; omega
  refine W.as (v := .bool false) (h := ?_)
  refine W.endF 58 [(0, .string s), (2, .pointer (some ⟨b2, 0, none⟩)), (3, .bool false)] (fun U9 => ?_)
  have c10 := (SG.belowR (Below.refl _ _) s7 (fun kq e => by cases e))
  refine h1 _ _ ?_
  refine wp_seq_k (fun K2 h2 => ?_)
  refine W.region_plain (row := none) [(0, false), (1, true), (2, false), (3, false), (4, false), (5, false), (6, false), (7, false), (8, false)] (by kernel_rfl) ?_
  have s11 := SG.self w3 none
  refine W.mv (v := .string s) (h := ?_)
  refine W.sc (vs := [.string s, .string (⟨#[32]⟩ : ByteArray)]) rfl rfl (by kernel_rfl) (by kernel_rfl) (by kernel_rfl) rfl (cut_lib s 32 _ (by omega) (max_kept hmax (SG.belowR c10 s11 (fun kq e => by cases e)))) ?_
  rintro e w14 ⟨r12, rfl, rfl, b13⟩
  have s15 := SG.of_below s11 b13
  refine ⟨_, rfl, s15, ?_⟩
  refine W.mv (v := .tuple #[.string (headB s 32), .string (tailB s 32), .bool (standsB s 32)]) (h := ?_)
  refine W.q (v := .string (headB s 32)) (hr := (r_extract (vs := #[.string (headB s 32), .string (tailB s 32), .bool (standsB s 32)]) rfl (by kernel_rfl) (by kernel_rfl))) (h := ?_)
  refine W.q (v := .string (tailB s 32)) (hr := (r_extract (vs := #[.string (headB s 32), .string (tailB s 32), .bool (standsB s 32)]) rfl (by kernel_rfl) (by kernel_rfl))) (h := ?_)
  refine W.q (v := .bool (standsB s 32)) (hr := (r_extract (vs := #[.string (headB s 32), .string (tailB s 32), .bool (standsB s 32)]) rfl (by kernel_rfl) (by kernel_rfl))) (h := ?_)
  refine W.as (v := .string (headB s 32)) (h := ?_)
  refine W.as (v := .string (tailB s 32)) (h := ?_)
  refine W.as (v := .bool (standsB s 32)) (h := ?_)
  refine W.endF 58 [(0, .string s), (2, .pointer (some ⟨b2, 0, none⟩)), (3, .bool false), (4, .string (headB s 32)), (5, .string (tailB s 32)), (6, .bool (standsB s 32))] (fun U16 => ?_)
  have x6 := SG.blk s15 x6 (by simp)
  have c17 := (SG.belowR c10 s15 (fun kq e => by cases e))
  refine h2 _ _ ?_
  refine wp_seq_k (fun K3 h3 => ?_)
  refine wp_seq_k (fun K4 h4 => ?_)
  refine W.region_quiet [(0, false), (1, false), (2, false), (3, false), (4, false), (5, false), (6, false)] (by kernel_rfl) ?_
  refine W.mv (v := .bool (standsB s 32)) (h := ?_)
  rcases Bool.eq_false_or_eq_true (standsB s 32) with q18 | q18
  · rw [q18]
    refine W.q (v := .bool false) (hr := (r_not (b := true) rfl (by kernel_rfl) rfl)) (h := ?_)
    refine W.mv (v := .bool false) (h := ?_)
    refine W.mv (v := .string (headB s 32)) (h := ?_)
    refine W.q (v := .int .i64 (((headB s 32).size : Nat) : Int)) (hr := (r_lenS (s := (headB s 32)) rfl (by kernel_rfl) (by kernel_rfl))) (h := ?_)
    by_cases q19 : ((((headB s 32).size : Nat) : Int) : Int) > (7 : Int)
    · refine W.q (v := .bool true) (hr := (r_gtr (m := (((headB s 32).size : Nat) : Int)) (n := 7) rfl (by kernel_rfl) (by kernel_rfl) (decide_eq_true q19))) (h := ?_)
      refine W.q (v := .bool true) (hr := (r_pick (b := false) rfl (by kernel_rfl) (by kernel_rfl))) (h := ?_)
      refine W.endF 58 [(0, .string s), (2, .pointer (some ⟨b2, 0, none⟩)), (3, .bool false), (4, .string (headB s 32)), (5, .string (tailB s 32)), (6, .bool true), (23, .bool true)] (fun U20 => ?_)
      refine h4 _ _ ?_
      refine wp_cond_true (by kernel_rfl) ?_
      refine wp_seq_k (fun K5 h5 => ?_)
      refine W.region_plain (row := (some b2)) [(0, false), (1, true), (2, false)] (by kernel_rfl) ?_
      have s21 := SG.self w14 (some b2)
      refine W.q (v := .agg #[.int .i64 0, .int .i64 0]) (hr := (r_build rfl (vs := []) (by kernel_rfl) (by kernel_rfl))) (h := ?_)
      refine W.ss (v := .agg #[.int .i64 0, .int .i64 0]) (j := 0) (news := [.int .i64 0, .int .i64 0]) (cs' := #[.int .i64 0, .int .i64 0]) s21 rfl (by kernel_rfl) rfl rfl (by kernel_rfl) (by kernel_rfl) x6 (by kernel_rfl) (by kernel_rfl) (by simp) (by kernel_rfl) (by kernel_rfl) (.inl rfl) (fun w22 g23 x24 s25 => ?_)
      refine W.as (v := .bool false) (h := ?_)
      refine W.endF 58 [(0, .string s), (2, .pointer (some ⟨b2, 0, none⟩)), (3, .bool false), (4, .string (headB s 32)), (5, .string (tailB s 32)), (6, .bool true), (23, .bool true)] (fun U26 => ?_)
      have c27 := (SG.belowR c17 s25 (fun kq e => by cases e; exact lo8))
      refine h5 _ _ ?_
      refine wp_ret ?_
      try simp only [Exit.then]
      refine retCT (x := .bool false) rfl (by kernel_rfl) (by kernel_rfl) (by kernel_rfl) (by kernel_rfl) x24 ?_
      obtain ⟨e1, e2, e3⟩ := par_no (s := s) (fun v k hg e => by have h9 := itoaB_7 hg.1; rw [← amt_val e] at h9; omega)
      exact ⟨by rw [e1, e2, e3], c27⟩
    · refine W.q (v := .bool false) (hr := (r_gtr (m := (((headB s 32).size : Nat) : Int)) (n := 7) rfl (by kernel_rfl) (by kernel_rfl) (decide_eq_false q19))) (h := ?_)
      refine W.q (v := .bool false) (hr := (r_pick (b := false) rfl (by kernel_rfl) (by kernel_rfl))) (h := ?_)
      refine W.endF 58 [(0, .string s), (2, .pointer (some ⟨b2, 0, none⟩)), (3, .bool false), (4, .string (headB s 32)), (5, .string (tailB s 32)), (6, .bool true), (23, .bool false)] (fun U28 => ?_)
      refine h4 _ _ ?_
      refine wp_cond_false (by kernel_rfl) ?_
      refine wp_skip ?_
      refine h3 _ _ ?_
      refine wp_seq_k (fun K6 h6 => ?_)
      refine W.region_plain (row := none) [(0, false), (1, true), (2, false), (3, false), (4, false), (5, false), (6, false)] (by kernel_rfl) ?_
      have s29 := SG.self w14 none
      refine W.mv (v := .string (headB s 32)) (h := ?_)
      have hhd := head_le s (c := 32) (by omega)
      refine W.sc (vs := [.string (headB s 32)]) rfl rfl (by kernel_rfl) (by kernel_rfl) (by kernel_rfl) rfl (atoi_ok (headB s 32) n _ (by omega) hat) ?_
      rintro e w31 ⟨rfl, b30⟩
      have s32 := SG.of_below s29 b30
      refine ⟨_, rfl, s32, ?_⟩
      refine W.mv (v := .tuple #[.int .i64 n, Value.nilIface]) (h := ?_)
      refine W.q (v := .int .i64 n) (hr := (r_extract (vs := #[.int .i64 n, Value.nilIface]) rfl (by kernel_rfl) (by kernel_rfl))) (h := ?_)
      refine W.q (v := Value.nilIface) (hr := (r_extract (vs := #[.int .i64 n, Value.nilIface]) rfl (by kernel_rfl) (by kernel_rfl))) (h := ?_)
      refine W.as (v := .int .i64 n) (h := ?_)
      refine W.as (v := Value.nilIface) (h := ?_)
      refine W.endF 58 [(0, .string s), (2, .pointer (some ⟨b2, 0, none⟩)), (3, .bool false), (4, .string (headB s 32)), (5, .string (tailB s 32)), (6, .bool true), (7, .int .i64 n), (8, Value.nilIface), (23, .bool false)] (fun U33 => ?_)
      have x6 := SG.blk s32 x6 (by simp)
      have c34 := (SG.belowR c17 s32 (fun kq e => by cases e))
      refine h6 _ _ ?_
      refine wp_seq_k (fun K7 h7 => ?_)
      refine wp_seq_k (fun K8 h8 => ?_)
      refine W.region_quiet [(0, false)] (by kernel_rfl) ?_
      refine W.as (v := .int .i64 1) (h := ?_)
      refine W.endF 58 [(0, .string s), (2, .pointer (some ⟨b2, 0, none⟩)), (3, .bool false), (4, .string (headB s 32)), (5, .string (tailB s 32)), (6, .bool true), (7, .int .i64 n), (8, Value.nilIface), (9, .int .i64 1), (23, .bool false)] (fun U35 => ?_)
      refine h8 _ _ ?_
      refine wp_block ?_
      have hval : ∀ v k, goodK v k → textA v k = s → n = v := fun v k hg e => by have h9 := amt_val e; rw [h9, itoaB_list, atoi_itoa] at hat; exact (Option.some.inj hat).symm
      refine loopK (fun am0 aa0 wl0 => ∃ (i : Nat) (U0 : Nat → Value), aa0 = ⟨(fr U0 [(0, .string s), (2, .pointer (some ⟨b2, 0, none⟩)), (3, .bool false), (4, .string (headB s 32)), (5, .string (tailB s 32)), (6, .bool true), (7, .int .i64 n), (8, Value.nilIface), (9, .int .i64 ((i : Nat) : Int)), (23, .bool false)] 58 0).toArray, []⟩ ∧ (am0 = 5 - i) ∧ (1 ≤ i ∧ i ≤ 5) ∧ (∀ j : Nat, j < i → ¬ (goodK n j ∧ textA n j = s)) ∧ (wl0.heap[b2]? = some (.cells #[.int .i64 0, .int .i64 0] 26 (0, 0))) ∧ (Below w.heap.size w wl0)) (5 - 1) ?_ ?_
      · exact ⟨1, (fun iU9 => lk [(0, .string s), (2, .pointer (some ⟨b2, 0, none⟩)), (3, .bool false), (4, .string (headB s 32)), (5, .string (tailB s 32)), (6, .bool true), (7, .int .i64 n), (8, Value.nilIface), (9, .int .i64 1), (23, .bool false)] iU9 (U35 iU9)), (by kernel_rfl), rfl, (by omega), (fun j hj h9 => by have h8 := h9.1.2; omega), x6, c34⟩
      rintro am0 aa0 wl0 K9 h9 ⟨i, U0, rfl, rfl, hi, hun, x6, c36⟩
      refine wp_seq_k (fun K10 h10 => ?_)
      refine wp_seq_k (fun K11 h11 => ?_)
      refine W.region_quiet [(0, false), (1, false)] (by kernel_rfl) ?_
      refine W.mv (v := .int .i64 ((i : Nat) : Int)) (h := ?_)
      by_cases q37 : (((i : Nat) : Int) : Int) ≤ (4 : Int)
      · refine W.q (v := .bool true) (hr := (r_leq (m := ((i : Nat) : Int)) (n := 4) rfl (by kernel_rfl) (by kernel_rfl) (decide_eq_true q37))) (h := ?_)
        refine W.endF 58 [(0, .string s), (2, .pointer (some ⟨b2, 0, none⟩)), (3, .bool false), (4, .string (headB s 32)), (5, .string (tailB s 32)), (6, .bool true), (7, .int .i64 n), (8, Value.nilIface), (9, .int .i64 ((i : Nat) : Int)), (23, .bool false), (31, .bool true)] (fun U38 => ?_)
        refine h11 _ _ ?_
        refine wp_cond_true (by kernel_rfl) ?_
        refine wp_skip ?_
        refine h10 _ _ ?_
        refine wp_seq_k (fun K12 h12 => ?_)
        refine wp_block ?_
        refine wp_seq_k (fun K13 h13 => ?_)
        refine W.region_plain (row := none) [(0, false), (1, false), (2, false), (3, true), (4, true)] (by kernel_rfl) ?_
        have s39 := SG.self wl0 none
        refine W.mv (v := .int .i64 n) (h := ?_)
        refine W.mv (v := .int .i64 ((i : Nat) : Int)) (h := ?_)
        refine W.q (v := .agg #[.int .i64 n, .int .i64 ((i : Nat) : Int)]) (hr := (r_build rfl (vs := [(0, .int .i64 n), (1, .int .i64 ((i : Nat) : Int))]) (by kernel_rfl) (by kernel_rfl))) (h := ?_)
        refine W.sn (fun b => .pointer (some ⟨b, 0, none⟩)) #[.int .i64 0, .int .i64 0] 26 s39 rfl (by kernel_rfl) rfl (fun _ => by kernel_rfl) (fun b40 w41 hb42 k43 x44 s45 => ?_)
        have lo46 : w.heap.size ≤ b40 := by have := ((SG.belowR c36 s39 (fun kq e => by cases e))).size; omega
        have ne47 : b2 ≠ b40 := by have := blk_lt x6; have := (s39).size; omega
        refine W.ss (v := .agg #[.int .i64 n, .int .i64 ((i : Nat) : Int)]) (j := 0) (news := [.int .i64 n, .int .i64 ((i : Nat) : Int)]) (cs' := #[.int .i64 n, .int .i64 ((i : Nat) : Int)]) s45 rfl (by kernel_rfl) rfl rfl (by kernel_rfl) (by kernel_rfl) x44 (by kernel_rfl) (by kernel_rfl) (by simp) (by kernel_rfl) (by kernel_rfl) (.inr (by have := (s39).size; have := hb42; omega)) (fun w48 g49 x50 s51 => ?_)
        refine W.endF 58 [(0, .string s), (2, .pointer (some ⟨b2, 0, none⟩)), (3, .bool false), (4, .string (headB s 32)), (5, .string (tailB s 32)), (6, .bool true), (7, .int .i64 n), (8, Value.nilIface), (9, .int .i64 ((i : Nat) : Int)), (10, .pointer (some ⟨b40, 0, none⟩)), (23, .bool false), (31, .bool true)] (fun U52 => ?_)
        have x6 := SG.blk s51 x6 (by simp)
        have c53 := (SG.belowR c36 s51 (fun kq e => by cases e))
        refine h13 _ _ ?_
        refine wp_seq_k (fun K14 h14 => ?_)
        refine W.region_plain (row := none) [(0, false), (1, false), (2, false), (3, false), (4, true), (5, false), (6, false), (7, false), (8, false), (9, false), (10, false), (11, false), (12, false), (13, false), (14, false), (15, false), (16, false), (17, true), (18, false)] (by kernel_rfl) ?_
        have s54 := SG.self w48 none
        refine W.mv (v := Value.nilIface) (h := ?_)
        refine W.q (v := .bool true) (hr := (r_eqlNil0 rfl (by kernel_rfl) (by kernel_rfl))) (h := ?_)
        refine W.mv (v := .bool true) (h := ?_)
        refine W.mv (v := .int .i64 n) (h := ?_)
        refine W.sc (vs := [.int .i64 n]) rfl rfl (by kernel_rfl) (by kernel_rfl) (by kernel_rfl) rfl (itoa_lib n hnb.1 hnb.2 _ (tab_kept htab (SG.belowR c53 s54 (fun kq e => by cases e)))) ?_
        rintro e w56 ⟨rfl, b55⟩
        have s57 := SG.of_below s54 b55
        refine ⟨_, rfl, s57, ?_⟩
        refine W.mv (v := .string (headB s 32)) (h := ?_)
        by_cases q58 : (itoaB n) = (headB s 32)
        · refine W.q (v := .bool true) (hr := (r_eqlS (s := (itoaB n)) (r := (headB s 32)) rfl (by kernel_rfl) (by kernel_rfl) (decide_eq_true q58))) (h := ?_)
          refine W.q (v := .bool true) (hr := (r_pick (b := true) rfl (by kernel_rfl) (by kernel_rfl))) (h := ?_)
          refine W.mv (v := .bool true) (h := ?_)
          refine W.mv (v := .int .i64 ((i : Nat) : Int)) (h := ?_)
          refine W.q (v := .pointer (some ⟨0, i, none⟩)) (hr := (r_idxA (len := 5) (k := i) rfl (by kernel_rfl) (by kernel_rfl) (by kernel_rfl) (by omega))) (h := ?_)
          refine W.ld (v := .string (unitB i)) (hc := (sgS (later c53 (hnm i (by omega))) (by simp))) (h := ?_)
          refine W.mv (v := .string (tailB s 32)) (h := ?_)
          by_cases q59 : (unitB i) = (tailB s 32)
          · refine W.q (v := .bool true) (hr := (r_eqlS (s := (unitB i)) (r := (tailB s 32)) rfl (by kernel_rfl) (by kernel_rfl) (decide_eq_true q59))) (h := ?_)
            refine W.q (v := .bool true) (hr := (r_pick (b := true) rfl (by kernel_rfl) (by kernel_rfl))) (h := ?_)
            refine W.mv (v := .bool true) (h := ?_)
            refine W.q (v := .agg #[.int .i64 n, .int .i64 ((i : Nat) : Int)]) (hr := (r_load2 rfl (by kernel_rfl) (by kernel_rfl) (by kernel_rfl) (sgS (blk_cell (j := 0) x50 (by kernel_rfl)) (by simp)) (sgS (blk_cell (j := 1) x50 (by kernel_rfl)) (by simp)))) (h := ?_)
            refine W.sc (vs := [.agg #[.int .i64 n, .int .i64 ((i : Nat) : Int)]]) rfl rfl (by kernel_rfl) (by kernel_rfl) (by kernel_rfl) rfl (IsValidAmount_impl n ((i : Nat) : Int) _) ?_
            rintro e w61 ⟨rfl, b60⟩
            have s62 := SG.of_below s57 b60
            refine ⟨_, rfl, s62, ?_⟩
            rcases Bool.eq_false_or_eq_true (goodAmt n ((i : Nat) : Int)) with q63 | q63
            · rw [q63]
              have hg9 := good_amt q63
              have hgv := hg9.1
              have hgu := hg9.2
              refine W.q (v := .bool true) (hr := (r_pick (b := true) rfl (by kernel_rfl) (by kernel_rfl))) (h := ?_)
              refine W.endF 58 [(0, .string s), (2, .pointer (some ⟨b2, 0, none⟩)), (3, .bool false), (4, .string (headB s 32)), (5, .string (tailB s 32)), (6, .bool true), (7, .int .i64 n), (8, Value.nilIface), (9, .int .i64 ((i : Nat) : Int)), (10, .pointer (some ⟨b40, 0, none⟩)), (23, .bool false), (31, .bool true), (55, .bool true)] (fun U64 => ?_)
              have x6 := SG.blk s62 x6 (by simp)
              have x50 := SG.blk s62 x50 (by simp)
              have c65 := (SG.belowR c53 s62 (fun kq e => by cases e))
              refine h14 _ _ ?_
              refine wp_cond_true (by kernel_rfl) ?_
              refine wp_seq_k (fun K15 h15 => ?_)
              refine W.region_plain (row := (some b2)) [(0, false), (1, true), (2, false)] (by kernel_rfl) ?_
              have s66 := SG.self w61 (some b2)
              refine W.q (v := .agg #[.int .i64 n, .int .i64 ((i : Nat) : Int)]) (hr := (r_load2 rfl (by kernel_rfl) (by kernel_rfl) (by kernel_rfl) (sgS (blk_cell (j := 0) x50 (by kernel_rfl)) (by have := ne47; simp; omega)) (sgS (blk_cell (j := 1) x50 (by kernel_rfl)) (by have := ne47; simp; omega)))) (h := ?_)
              refine W.ss (v := .agg #[.int .i64 n, .int .i64 ((i : Nat) : Int)]) (j := 0) (news := [.int .i64 n, .int .i64 ((i : Nat) : Int)]) (cs' := #[.int .i64 n, .int .i64 ((i : Nat) : Int)]) s66 rfl (by kernel_rfl) rfl rfl (by kernel_rfl) (by kernel_rfl) x6 (by kernel_rfl) (by kernel_rfl) (by simp) (by kernel_rfl) (by kernel_rfl) (.inl rfl) (fun w67 g68 x69 s70 => ?_)
              refine W.as (v := .bool true) (h := ?_)
              refine W.endF 58 [(0, .string s), (2, .pointer (some ⟨b2, 0, none⟩)), (3, .bool true), (4, .string (headB s 32)), (5, .string (tailB s 32)), (6, .bool true), (7, .int .i64 n), (8, Value.nilIface), (9, .int .i64 ((i : Nat) : Int)), (10, .pointer (some ⟨b40, 0, none⟩)), (23, .bool false), (31, .bool true), (55, .bool true)] (fun U71 => ?_)
              have x50 := SG.blk s70 x50 (by have := ne47; simp; omega)
              have c72 := (SG.belowR c65 s70 (fun kq e => by cases e; exact lo8))
              refine h15 _ _ ?_
              refine wp_ret ?_
              try simp only [Exit.then, Exit.inBlock]
              refine retCT (x := .bool true) rfl (by kernel_rfl) (by kernel_rfl) (by kernel_rfl) (by kernel_rfl) x69 ?_
              have htx := seq_text q18 q58 q59
              have hgk := goodK_of q63
              obtain ⟨e1, e2, e3⟩ := par_yes (s := s) hgk htx
              exact ⟨by rw [e1, e2, e3], c72⟩
            · rw [q63]
              refine W.q (v := .bool false) (hr := (r_pick (b := true) rfl (by kernel_rfl) (by kernel_rfl))) (h := ?_)
              refine W.endF 58 [(0, .string s), (2, .pointer (some ⟨b2, 0, none⟩)), (3, .bool false), (4, .string (headB s 32)), (5, .string (tailB s 32)), (6, .bool true), (7, .int .i64 n), (8, Value.nilIface), (9, .int .i64 ((i : Nat) : Int)), (10, .pointer (some ⟨b40, 0, none⟩)), (23, .bool false), (31, .bool true), (55, .bool false)] (fun U73 => ?_)
              have x6 := SG.blk s62 x6 (by simp)
              have x50 := SG.blk s62 x50 (by simp)
              have c74 := (SG.belowR c53 s62 (fun kq e => by cases e))
              refine h14 _ _ ?_
              refine wp_cond_false (by kernel_rfl) ?_
              refine wp_skip ?_
              refine h12 _ _ ?_
              refine W.region_quiet [(0, false), (1, false), (2, false)] (by kernel_rfl) ?_
              refine W.mv (v := .int .i64 ((i : Nat) : Int)) (h := ?_)
              refine W.q (v := .int .i64 ((i + 1 : Nat) : Int)) (hr := (r_add (m := ((i : Nat) : Int)) (n := 1) (z := ((i + 1 : Nat) : Int)) rfl (by kernel_rfl) (by kernel_rfl) (by omega) (by omega))) (h := ?_)
              refine W.as (v := .int .i64 ((i + 1 : Nat) : Int)) (h := ?_)
              refine W.endF 58 [(0, .string s), (2, .pointer (some ⟨b2, 0, none⟩)), (3, .bool false), (4, .string (headB s 32)), (5, .string (tailB s 32)), (6, .bool true), (7, .int .i64 n), (8, Value.nilIface), (9, .int .i64 ((i + 1 : Nat) : Int)), (10, .pointer (some ⟨b40, 0, none⟩)), (23, .bool false), (31, .bool true), (55, .bool false)] (fun U75 => ?_)
              exact h9 _ _ _ (by omega : (5 - (i + 1)) < _) ⟨i + 1, (fun iU9 => lk [(0, .string s), (2, .pointer (some ⟨b2, 0, none⟩)), (3, .bool false), (4, .string (headB s 32)), (5, .string (tailB s 32)), (6, .bool true), (7, .int .i64 n), (8, Value.nilIface), (9, .int .i64 ((i + 1 : Nat) : Int)), (10, .pointer (some ⟨b40, 0, none⟩)), (23, .bool false), (31, .bool true), (55, .bool false)] iU9 (U75 iU9)), (by kernel_rfl), rfl, (by omega), (unit_no hun (fun h9 => not_goodK q63 h9.1)), x6, c74⟩
          · refine W.q (v := .bool false) (hr := (r_eqlS (s := (unitB i)) (r := (tailB s 32)) rfl (by kernel_rfl) (by kernel_rfl) (decide_eq_false q59))) (h := ?_)
            refine W.q (v := .bool false) (hr := (r_pick (b := true) rfl (by kernel_rfl) (by kernel_rfl))) (h := ?_)
            refine W.mv (v := .bool false) (h := ?_)
            refine W.sp s57 (h := ?_)
            refine W.sp s57 (h := ?_)
            refine W.q (v := .bool false) (hr := (r_pick (b := false) rfl (by kernel_rfl) (by kernel_rfl))) (h := ?_)
            refine W.endF 58 [(0, .string s), (2, .pointer (some ⟨b2, 0, none⟩)), (3, .bool false), (4, .string (headB s 32)), (5, .string (tailB s 32)), (6, .bool true), (7, .int .i64 n), (8, Value.nilIface), (9, .int .i64 ((i : Nat) : Int)), (10, .pointer (some ⟨b40, 0, none⟩)), (23, .bool false), (31, .bool true), (55, .bool false)] (fun U76 => ?_)
            have x6 := SG.blk s57 x6 (by simp)
            have x50 := SG.blk s57 x50 (by simp)
            have c77 := (SG.belowR c53 s57 (fun kq e => by cases e))
            refine h14 _ _ ?_
            refine wp_cond_false (by kernel_rfl) ?_
            refine wp_skip ?_
            refine h12 _ _ ?_
            refine W.region_quiet [(0, false), (1, false), (2, false)] (by kernel_rfl) ?_
            refine W.mv (v := .int .i64 ((i : Nat) : Int)) (h := ?_)
            refine W.q (v := .int .i64 ((i + 1 : Nat) : Int)) (hr := (r_add (m := ((i : Nat) : Int)) (n := 1) (z := ((i + 1 : Nat) : Int)) rfl (by kernel_rfl) (by kernel_rfl) (by omega) (by omega))) (h := ?_)
            refine W.as (v := .int .i64 ((i + 1 : Nat) : Int)) (h := ?_)
            refine W.endF 58 [(0, .string s), (2, .pointer (some ⟨b2, 0, none⟩)), (3, .bool false), (4, .string (headB s 32)), (5, .string (tailB s 32)), (6, .bool true), (7, .int .i64 n), (8, Value.nilIface), (9, .int .i64 ((i + 1 : Nat) : Int)), (10, .pointer (some ⟨b40, 0, none⟩)), (23, .bool false), (31, .bool true), (55, .bool false)] (fun U78 => ?_)
            exact h9 _ _ _ (by omega : (5 - (i + 1)) < _) ⟨i + 1, (fun iU9 => lk [(0, .string s), (2, .pointer (some ⟨b2, 0, none⟩)), (3, .bool false), (4, .string (headB s 32)), (5, .string (tailB s 32)), (6, .bool true), (7, .int .i64 n), (8, Value.nilIface), (9, .int .i64 ((i + 1 : Nat) : Int)), (10, .pointer (some ⟨b40, 0, none⟩)), (23, .bool false), (31, .bool true), (55, .bool false)] iU9 (U78 iU9)), (by kernel_rfl), rfl, (by omega), (unit_no hun (fun h9 => q59 (by rw [← h9.2, textA_tail]))), x6, c77⟩
        · refine W.q (v := .bool false) (hr := (r_eqlS (s := (itoaB n)) (r := (headB s 32)) rfl (by kernel_rfl) (by kernel_rfl) (decide_eq_false q58))) (h := ?_)
          refine W.q (v := .bool false) (hr := (r_pick (b := true) rfl (by kernel_rfl) (by kernel_rfl))) (h := ?_)
          refine W.mv (v := .bool false) (h := ?_)
          refine W.sp s57 (h := ?_)
          refine W.sp s57 (h := ?_)
          refine W.sp s57 (h := ?_)
          refine W.sp s57 (h := ?_)
          refine W.sp s57 (h := ?_)
          refine W.q (v := .bool false) (hr := (r_pick (b := false) rfl (by kernel_rfl) (by kernel_rfl))) (h := ?_)
          refine W.mv (v := .bool false) (h := ?_)
          refine W.sp s57 (h := ?_)
          refine W.sp s57 (h := ?_)
          refine W.q (v := .bool false) (hr := (r_pick (b := false) rfl (by kernel_rfl) (by kernel_rfl))) (h := ?_)
          refine W.endF 58 [(0, .string s), (2, .pointer (some ⟨b2, 0, none⟩)), (3, .bool false), (4, .string (headB s 32)), (5, .string (tailB s 32)), (6, .bool true), (7, .int .i64 n), (8, Value.nilIface), (9, .int .i64 ((i : Nat) : Int)), (10, .pointer (some ⟨b40, 0, none⟩)), (23, .bool false), (31, .bool true), (55, .bool false)] (fun U79 => ?_)
          have x6 := SG.blk s57 x6 (by simp)
          have x50 := SG.blk s57 x50 (by simp)
          have c80 := (SG.belowR c53 s57 (fun kq e => by cases e))
          refine h14 _ _ ?_
          refine wp_cond_false (by kernel_rfl) ?_
          refine wp_skip ?_
          refine h12 _ _ ?_
          refine W.region_quiet [(0, false), (1, false), (2, false)] (by kernel_rfl) ?_
          refine W.mv (v := .int .i64 ((i : Nat) : Int)) (h := ?_)
          refine W.q (v := .int .i64 ((i + 1 : Nat) : Int)) (hr := (r_add (m := ((i : Nat) : Int)) (n := 1) (z := ((i + 1 : Nat) : Int)) rfl (by kernel_rfl) (by kernel_rfl) (by omega) (by omega))) (h := ?_)
          refine W.as (v := .int .i64 ((i + 1 : Nat) : Int)) (h := ?_)
          refine W.endF 58 [(0, .string s), (2, .pointer (some ⟨b2, 0, none⟩)), (3, .bool false), (4, .string (headB s 32)), (5, .string (tailB s 32)), (6, .bool true), (7, .int .i64 n), (8, Value.nilIface), (9, .int .i64 ((i + 1 : Nat) : Int)), (10, .pointer (some ⟨b40, 0, none⟩)), (23, .bool false), (31, .bool true), (55, .bool false)] (fun U81 => ?_)
          exact h9 _ _ _ (by omega : (5 - (i + 1)) < _) ⟨i + 1, (fun iU9 => lk [(0, .string s), (2, .pointer (some ⟨b2, 0, none⟩)), (3, .bool false), (4, .string (headB s 32)), (5, .string (tailB s 32)), (6, .bool true), (7, .int .i64 n), (8, Value.nilIface), (9, .int .i64 ((i + 1 : Nat) : Int)), (10, .pointer (some ⟨b40, 0, none⟩)), (23, .bool false), (31, .bool true), (55, .bool false)] iU9 (U81 iU9)), (by kernel_rfl), rfl, (by omega), (unit_no hun (fun h9 => q58 (amt_val h9.2).symm)), x6, c80⟩
      · refine W.q (v := .bool false) (hr := (r_leq (m := ((i : Nat) : Int)) (n := 4) rfl (by kernel_rfl) (by kernel_rfl) (decide_eq_false q37))) (h := ?_)
        refine W.endF 58 [(0, .string s), (2, .pointer (some ⟨b2, 0, none⟩)), (3, .bool false), (4, .string (headB s 32)), (5, .string (tailB s 32)), (6, .bool true), (7, .int .i64 n), (8, Value.nilIface), (9, .int .i64 ((i : Nat) : Int)), (23, .bool false), (31, .bool false)] (fun U82 => ?_)
        refine h11 _ _ ?_
        refine wp_cond_false (by kernel_rfl) ?_
        refine wp_exit ?_
        refine h7 _ _ ?_
        refine wp_seq_k (fun K16 h16 => ?_)
        refine W.region_plain (row := (some b2)) [(0, false), (1, true), (2, false)] (by kernel_rfl) ?_
        have s83 := SG.self wl0 (some b2)
        refine W.q (v := .agg #[.int .i64 0, .int .i64 0]) (hr := (r_build rfl (vs := []) (by kernel_rfl) (by kernel_rfl))) (h := ?_)
        refine W.ss (v := .agg #[.int .i64 0, .int .i64 0]) (j := 0) (news := [.int .i64 0, .int .i64 0]) (cs' := #[.int .i64 0, .int .i64 0]) s83 rfl (by kernel_rfl) rfl rfl (by kernel_rfl) (by kernel_rfl) x6 (by kernel_rfl) (by kernel_rfl) (by simp) (by kernel_rfl) (by kernel_rfl) (.inl rfl) (fun w84 g85 x86 s87 => ?_)
        refine W.as (v := .bool false) (h := ?_)
        refine W.endF 58 [(0, .string s), (2, .pointer (some ⟨b2, 0, none⟩)), (3, .bool false), (4, .string (headB s 32)), (5, .string (tailB s 32)), (6, .bool true), (7, .int .i64 n), (8, Value.nilIface), (9, .int .i64 ((i : Nat) : Int)), (23, .bool false), (31, .bool false)] (fun U88 => ?_)
        have c89 := (SG.belowR c36 s87 (fun kq e => by cases e; exact lo8))
        refine h16 _ _ ?_
        refine wp_ret ?_
        try simp only [Exit.then]
        refine retCT (x := .bool false) rfl (by kernel_rfl) (by kernel_rfl) (by kernel_rfl) (by kernel_rfl) x86 ?_
        obtain ⟨e1, e2, e3⟩ := par_no (s := s) (unit_end hval hun (by omega))
        exact ⟨by rw [e1, e2, e3], c89⟩
  · rw [q18]
    refine W.q (v := .bool true) (hr := (r_not (b := false) rfl (by kernel_rfl) rfl)) (h := ?_)
    refine W.mv (v := .bool true) (h := ?_)
    refine W.sp rfl (h := ?_)
    refine W.sp rfl (h := ?_)
    refine W.sp rfl (h := ?_)
    refine W.q (v := .bool true) (hr := (r_pick (b := true) rfl (by kernel_rfl) (by kernel_rfl))) (h := ?_)
    refine W.endF 58 [(0, .string s), (2, .pointer (some ⟨b2, 0, none⟩)), (3, .bool false), (4, .string (headB s 32)), (5, .string (tailB s 32)), (6, .bool false), (23, .bool true)] (fun U90 => ?_)
    refine h4 _ _ ?_
    refine wp_cond_true (by kernel_rfl) ?_
    refine wp_seq_k (fun K17 h17 => ?_)
    refine W.region_plain (row := (some b2)) [(0, false), (1, true), (2, false)] (by kernel_rfl) ?_
    have s91 := SG.self w14 (some b2)
    refine W.q (v := .agg #[.int .i64 0, .int .i64 0]) (hr := (r_build rfl (vs := []) (by kernel_rfl) (by kernel_rfl))) (h := ?_)
    refine W.ss (v := .agg #[.int .i64 0, .int .i64 0]) (j := 0) (news := [.int .i64 0, .int .i64 0]) (cs' := #[.int .i64 0, .int .i64 0]) s91 rfl (by kernel_rfl) rfl rfl (by kernel_rfl) (by kernel_rfl) x6 (by kernel_rfl) (by kernel_rfl) (by simp) (by kernel_rfl) (by kernel_rfl) (.inl rfl) (fun w92 g93 x94 s95 => ?_)
    refine W.as (v := .bool false) (h := ?_)
    refine W.endF 58 [(0, .string s), (2, .pointer (some ⟨b2, 0, none⟩)), (3, .bool false), (4, .string (headB s 32)), (5, .string (tailB s 32)), (6, .bool false), (23, .bool true)] (fun U96 => ?_)
    have c97 := (SG.belowR c17 s95 (fun kq e => by cases e; exact lo8))
    refine h17 _ _ ?_
    refine wp_ret ?_
    try simp only [Exit.then]
    refine retCT (x := .bool false) rfl (by kernel_rfl) (by kernel_rfl) (by kernel_rfl) (by kernel_rfl) x94 ?_
    obtain ⟨e1, e2, e3⟩ := par_no (s := s) (fun v k hg e => by have h9 := textA_stands v k; rw [e, q18] at h9; cases h9)
    exact ⟨by rw [e1, e2, e3], c97⟩

set_option maxRecDepth 100000 in
set_option maxHeartbeats 1000000 in
theorem ParseAmount_err (s : ByteArray) (w : World) (hs : s.size ≤ 1048576) (hmax : MaxIs w) (htab : Lib.TabIs Tryd.prog w "internal/strconv.uint64pow10" .u64 Lib.pow10Tab) (hnm : Names w) (hev : EvIs w) (hat : Lib.atoi (headB s 32).data.toList = none) :
    Calls Tryd.prog 26 #[.string s] w fun e w' => e = .returned (.tuple #[.agg #[.int .i64 (ParseAmount_vv s), .int .i64 (ParseAmount_vu s)], .bool (ParseAmount_v1 s)]) ∧ Below w.heap.size w w' := by
  go_enter Tryd.func26, Tryd.ntmps26
  refine wp_seq_k (fun K1 h1 => ?_)
  refine W.region_plain (row := none) [(0, true), (1, false)] (by kernel_rfl) ?_
  have s1 := SG.self w none
  refine W.sn (fun b => .pointer (some ⟨b, 0, none⟩)) #[.int .i64 0, .int .i64 0] 26 s1 rfl (by kernel_rfl) rfl (fun _ => by kernel_rfl) (fun b2 w3 hb4 k5 x6 s7 => ?_)
  have lo8 : w.heap.size ≤ b2 := by have := ((SG.belowR (Below.refl _ _) s1 (fun kq e => by cases e))).size; omega
  refine W.as (v := .bool false) (h := ?_)
  refine W.endF 58 [(0, .string s), (2, .pointer (some ⟨b2, 0, none⟩)), (3, .bool false)] (fun U9 => ?_)
  have c10 := (SG.belowR (Below.refl _ _) s7 (fun kq e => by cases e))
  refine h1 _ _ ?_
  refine wp_seq_k (fun K2 h2 => ?_)
  refine W.region_plain (row := none) [(0, false), (1, true), (2, false), (3, false), (4, false), (5, false), (6, false), (7, false), (8, false)] (by kernel_rfl) ?_
  have s11 := SG.self w3 none
  refine W.mv (v := .string s) (h := ?_)
  refine W.sc (vs := [.string s, .string (⟨#[32]⟩ : ByteArray)]) rfl rfl (by kernel_rfl) (by kernel_rfl) (by kernel_rfl) rfl (cut_lib s 32 _ (by omega) (max_kept hmax (SG.belowR c10 s11 (fun kq e => by cases e)))) ?_
  rintro e w14 ⟨r12, rfl, rfl, b13⟩
  have s15 := SG.of_below s11 b13
  refine ⟨_, rfl, s15, ?_⟩
  refine W.mv (v := .tuple #[.string (headB s 32), .string (tailB s 32), .bool (standsB s 32)]) (h := ?_)
  refine W.q (v := .string (headB s 32)) (hr := (r_extract (vs := #[.string (headB s 32), .string (tailB s 32), .bool (standsB s 32)]) rfl (by kernel_rfl) (by kernel_rfl))) (h := ?_)
  refine W.q (v := .string (tailB s 32)) (hr := (r_extract (vs := #[.string (headB s 32), .string (tailB s 32), .bool (standsB s 32)]) rfl (by kernel_rfl) (by kernel_rfl))) (h := ?_)
  refine W.q (v := .bool (standsB s 32)) (hr := (r_extract (vs := #[.string (headB s 32), .string (tailB s 32), .bool (standsB s 32)]) rfl (by kernel_rfl) (by kernel_rfl))) (h := ?_)
  refine W.as (v := .string (headB s 32)) (h := ?_)
  refine W.as (v := .string (tailB s 32)) (h := ?_)
  refine W.as (v := .bool (standsB s 32)) (h := ?_)
  refine W.endF 58 [(0, .string s), (2, .pointer (some ⟨b2, 0, none⟩)), (3, .bool false), (4, .string (headB s 32)), (5, .string (tailB s 32)), (6, .bool (standsB s 32))] (fun U16 => ?_)
  have x6 := SG.blk s15 x6 (by simp)
  have c17 := (SG.belowR c10 s15 (fun kq e => by cases e))
  refine h2 _ _ ?_
  refine wp_seq_k (fun K3 h3 => ?_)
  refine wp_seq_k (fun K4 h4 => ?_)
  refine W.region_quiet [(0, false), (1, false), (2, false), (3, false), (4, false), (5, false), (6, false)] (by kernel_rfl) ?_
  refine W.mv (v := .bool (standsB s 32)) (h := ?_)
  rcases Bool.eq_false_or_eq_true (standsB s 32) with q18 | q18
  · rw [q18]
    refine W.q (v := .bool false) (hr := (r_not (b := true) rfl (by kernel_rfl) rfl)) (h := ?_)
    refine W.mv (v := .bool false) (h := ?_)
    refine W.mv (v := .string (headB s 32)) (h := ?_)
    refine W.q (v := .int .i64 (((headB s 32).size : Nat) : Int)) (hr := (r_lenS (s := (headB s 32)) rfl (by kernel_rfl) (by kernel_rfl))) (h := ?_)
    by_cases q19 : ((((headB s 32).size : Nat) : Int) : Int) > (7 : Int)
    · refine W.q (v := .bool true) (hr := (r_gtr (m := (((headB s 32).size : Nat) : Int)) (n := 7) rfl (by kernel_rfl) (by kernel_rfl) (decide_eq_true q19))) (h := ?_)
      refine W.q (v := .bool true) (hr := (r_pick (b := false) rfl (by kernel_rfl) (by kernel_rfl))) (h := ?_)
      refine W.endF 58 [(0, .string s), (2, .pointer (some ⟨b2, 0, none⟩)), (3, .bool false), (4, .string (headB s 32)), (5, .string (tailB s 32)), (6, .bool true), (23, .bool true)] (fun U20 => ?_)
      refine h4 _ _ ?_
      refine wp_cond_true (by kernel_rfl) ?_
      refine wp_seq_k (fun K5 h5 => ?_)
      refine W.region_plain (row := (some b2)) [(0, false), (1, true), (2, false)] (by kernel_rfl) ?_
      have s21 := SG.self w14 (some b2)
      refine W.q (v := .agg #[.int .i64 0, .int .i64 0]) (hr := (r_build rfl (vs := []) (by kernel_rfl) (by kernel_rfl))) (h := ?_)
      refine W.ss (v := .agg #[.int .i64 0, .int .i64 0]) (j := 0) (news := [.int .i64 0, .int .i64 0]) (cs' := #[.int .i64 0, .int .i64 0]) s21 rfl (by kernel_rfl) rfl rfl (by kernel_rfl) (by kernel_rfl) x6 (by kernel_rfl) (by kernel_rfl) (by simp) (by kernel_rfl) (by kernel_rfl) (.inl rfl) (fun w22 g23 x24 s25 => ?_)
      refine W.as (v := .bool false) (h := ?_)
      refine W.endF 58 [(0, .string s), (2, .pointer (some ⟨b2, 0, none⟩)), (3, .bool false), (4, .string (headB s 32)), (5, .string (tailB s 32)), (6, .bool true), (23, .bool true)] (fun U26 => ?_)
      have c27 := (SG.belowR c17 s25 (fun kq e => by cases e; exact lo8))
      refine h5 _ _ ?_
      refine wp_ret ?_
      try simp only [Exit.then]
      refine retCT (x := .bool false) rfl (by kernel_rfl) (by kernel_rfl) (by kernel_rfl) (by kernel_rfl) x24 ?_
      obtain ⟨e1, e2, e3⟩ := par_no (s := s) (fun v k hg e => by have h9 := itoaB_7 hg.1; rw [← amt_val e] at h9; omega)
      exact ⟨by rw [e1, e2, e3], c27⟩
    · refine W.q (v := .bool false) (hr := (r_gtr (m := (((headB s 32).size : Nat) : Int)) (n := 7) rfl (by kernel_rfl) (by kernel_rfl) (decide_eq_false q19))) (h := ?_)
      refine W.q (v := .bool false) (hr := (r_pick (b := false) rfl (by kernel_rfl) (by kernel_rfl))) (h := ?_)
      refine W.endF 58 [(0, .string s), (2, .pointer (some ⟨b2, 0, none⟩)), (3, .bool false), (4, .string (headB s 32)), (5, .string (tailB s 32)), (6, .bool true), (23, .bool false)] (fun U28 => ?_)
      refine h4 _ _ ?_
      refine wp_cond_false (by kernel_rfl) ?_
      refine wp_skip ?_
      refine h3 _ _ ?_
      refine wp_seq_k (fun K6 h6 => ?_)
      refine W.region_plain (row := none) [(0, false), (1, true), (2, false), (3, false), (4, false), (5, false), (6, false)] (by kernel_rfl) ?_
      have s29 := SG.self w14 none
      refine W.mv (v := .string (headB s 32)) (h := ?_)
      refine W.sc (vs := [.string (headB s 32)]) rfl rfl (by kernel_rfl) (by kernel_rfl) (by kernel_rfl) rfl (atoi_err (headB s 32) _ (by omega) hat (ev_kept hev (SG.belowR c17 s29 (fun kq e => by cases e)))) ?_
      rintro e w32 ⟨tq, N30, rfl, b31⟩
      have s33 := SG.of_below s29 b31
      refine ⟨_, rfl, s33, ?_⟩
      refine W.mv (v := .tuple #[.int .i64 0, (.iface tq N30)]) (h := ?_)
      refine W.q (v := .int .i64 0) (hr := (r_extract (vs := #[.int .i64 0, (.iface tq N30)]) rfl (by kernel_rfl) (by kernel_rfl))) (h := ?_)
      refine W.q (v := (.iface tq N30)) (hr := (r_extract (vs := #[.int .i64 0, (.iface tq N30)]) rfl (by kernel_rfl) (by kernel_rfl))) (h := ?_)
      refine W.as (v := .int .i64 0) (h := ?_)
      refine W.as (v := (.iface tq N30)) (h := ?_)
      refine W.endF 58 [(0, .string s), (2, .pointer (some ⟨b2, 0, none⟩)), (3, .bool false), (4, .string (headB s 32)), (5, .string (tailB s 32)), (6, .bool true), (7, .int .i64 0), (8, (.iface tq N30)), (23, .bool false)] (fun U34 => ?_)
      have x6 := SG.blk s33 x6 (by simp)
      have c35 := (SG.belowR c17 s33 (fun kq e => by cases e))
      refine h6 _ _ ?_
      refine wp_seq_k (fun K7 h7 => ?_)
      refine wp_seq_k (fun K8 h8 => ?_)
      refine W.region_quiet [(0, false)] (by kernel_rfl) ?_
      refine W.as (v := .int .i64 1) (h := ?_)
      refine W.endF 58 [(0, .string s), (2, .pointer (some ⟨b2, 0, none⟩)), (3, .bool false), (4, .string (headB s 32)), (5, .string (tailB s 32)), (6, .bool true), (7, .int .i64 0), (8, (.iface tq N30)), (9, .int .i64 1), (23, .bool false)] (fun U36 => ?_)
      refine h8 _ _ ?_
      refine wp_block ?_
      refine loopK (fun am0 aa0 wl0 => ∃ (i : Nat) (U0 : Nat → Value), aa0 = ⟨(fr U0 [(0, .string s), (2, .pointer (some ⟨b2, 0, none⟩)), (3, .bool false), (4, .string (headB s 32)), (5, .string (tailB s 32)), (6, .bool true), (7, .int .i64 0), (8, (.iface tq N30)), (9, .int .i64 ((i : Nat) : Int)), (23, .bool false)] 58 0).toArray, []⟩ ∧ (am0 = 5 - i) ∧ (1 ≤ i ∧ i ≤ 5) ∧ (wl0.heap[b2]? = some (.cells #[.int .i64 0, .int .i64 0] 26 (0, 0))) ∧ (Below w.heap.size w wl0)) (5 - 1) ?_ ?_
      · exact ⟨1, (fun iU9 => lk [(0, .string s), (2, .pointer (some ⟨b2, 0, none⟩)), (3, .bool false), (4, .string (headB s 32)), (5, .string (tailB s 32)), (6, .bool true), (7, .int .i64 0), (8, (.iface tq N30)), (9, .int .i64 1), (23, .bool false)] iU9 (U36 iU9)), (by kernel_rfl), rfl, (by omega), x6, c35⟩
      rintro am0 aa0 wl0 K9 h9 ⟨i, U0, rfl, rfl, hi, x6, c37⟩
      refine wp_seq_k (fun K10 h10 => ?_)
      refine wp_seq_k (fun K11 h11 => ?_)
      refine W.region_quiet [(0, false), (1, false)] (by kernel_rfl) ?_
      refine W.mv (v := .int .i64 ((i : Nat) : Int)) (h := ?_)
      by_cases q38 : (((i : Nat) : Int) : Int) ≤ (4 : Int)
      · refine W.q (v := .bool true) (hr := (r_leq (m := ((i : Nat) : Int)) (n := 4) rfl (by kernel_rfl) (by kernel_rfl) (decide_eq_true q38))) (h := ?_)
        refine W.endF 58 [(0, .string s), (2, .pointer (some ⟨b2, 0, none⟩)), (3, .bool false), (4, .string (headB s 32)), (5, .string (tailB s 32)), (6, .bool true), (7, .int .i64 0), (8, (.iface tq N30)), (9, .int .i64 ((i : Nat) : Int)), (23, .bool false), (31, .bool true)] (fun U39 => ?_)
        refine h11 _ _ ?_
        refine wp_cond_true (by kernel_rfl) ?_
        refine wp_skip ?_
        refine h10 _ _ ?_
        refine wp_seq_k (fun K12 h12 => ?_)
        refine wp_block ?_
        refine wp_seq_k (fun K13 h13 => ?_)
        refine W.region_plain (row := none) [(0, false), (1, false), (2, false), (3, true), (4, true)] (by kernel_rfl) ?_
        have s40 := SG.self wl0 none
        refine W.mv (v := .int .i64 0) (h := ?_)
        refine W.mv (v := .int .i64 ((i : Nat) : Int)) (h := ?_)
        refine W.q (v := .agg #[.int .i64 0, .int .i64 ((i : Nat) : Int)]) (hr := (r_build rfl (vs := [(0, .int .i64 0), (1, .int .i64 ((i : Nat) : Int))]) (by kernel_rfl) (by kernel_rfl))) (h := ?_)
        refine W.sn (fun b => .pointer (some ⟨b, 0, none⟩)) #[.int .i64 0, .int .i64 0] 26 s40 rfl (by kernel_rfl) rfl (fun _ => by kernel_rfl) (fun b41 w42 hb43 k44 x45 s46 => ?_)
        have lo47 : w.heap.size ≤ b41 := by have := ((SG.belowR c37 s40 (fun kq e => by cases e))).size; omega
        have ne48 : b2 ≠ b41 := by have := blk_lt x6; have := (s40).size; omega
        refine W.ss (v := .agg #[.int .i64 0, .int .i64 ((i : Nat) : Int)]) (j := 0) (news := [.int .i64 0, .int .i64 ((i : Nat) : Int)]) (cs' := #[.int .i64 0, .int .i64 ((i : Nat) : Int)]) s46 rfl (by kernel_rfl) rfl rfl (by kernel_rfl) (by kernel_rfl) x45 (by kernel_rfl) (by kernel_rfl) (by simp) (by kernel_rfl) (by kernel_rfl) (.inr (by have := (s40).size; have := hb43; omega)) (fun w49 g50 x51 s52 => ?_)
        refine W.endF 58 [(0, .string s), (2, .pointer (some ⟨b2, 0, none⟩)), (3, .bool false), (4, .string (headB s 32)), (5, .string (tailB s 32)), (6, .bool true), (7, .int .i64 0), (8, (.iface tq N30)), (9, .int .i64 ((i : Nat) : Int)), (10, .pointer (some ⟨b41, 0, none⟩)), (23, .bool false), (31, .bool true)] (fun U53 => ?_)
        have x6 := SG.blk s52 x6 (by simp)
        have c54 := (SG.belowR c37 s52 (fun kq e => by cases e))
        refine h13 _ _ ?_
        refine wp_seq_k (fun K14 h14 => ?_)
        refine W.region_plain (row := none) [(0, false), (1, false), (2, false), (3, false), (4, true), (5, false), (6, false), (7, false), (8, false), (9, false), (10, false), (11, false), (12, false), (13, false), (14, false), (15, false), (16, false), (17, true), (18, false)] (by kernel_rfl) ?_
        have s55 := SG.self w49 none
        refine W.mv (v := (.iface tq N30)) (h := ?_)
        refine W.q (v := .bool false) (hr := (r_eqlNil1 (tt := tq) (p := N30) rfl (by kernel_rfl) (by kernel_rfl))) (h := ?_)
        refine W.mv (v := .bool false) (h := ?_)
        refine W.sp s55 (h := ?_)
        refine W.sp s55 (h := ?_)
        refine W.sp s55 (h := ?_)
        refine W.sp s55 (h := ?_)
        refine W.q (v := .bool false) (hr := (r_pick (b := false) rfl (by kernel_rfl) (by kernel_rfl))) (h := ?_)
        refine W.mv (v := .bool false) (h := ?_)
        refine W.sp s55 (h := ?_)
        refine W.sp s55 (h := ?_)
        refine W.sp s55 (h := ?_)
        refine W.sp s55 (h := ?_)
        refine W.sp s55 (h := ?_)
        refine W.q (v := .bool false) (hr := (r_pick (b := false) rfl (by kernel_rfl) (by kernel_rfl))) (h := ?_)
        refine W.mv (v := .bool false) (h := ?_)
        refine W.sp s55 (h := ?_)
        refine W.sp s55 (h := ?_)
        refine W.q (v := .bool false) (hr := (r_pick (b := false) rfl (by kernel_rfl) (by kernel_rfl))) (h := ?_)
        refine W.endF 58 [(0, .string s), (2, .pointer (some ⟨b2, 0, none⟩)), (3, .bool false), (4, .string (headB s 32)), (5, .string (tailB s 32)), (6, .bool true), (7, .int .i64 0), (8, (.iface tq N30)), (9, .int .i64 ((i : Nat) : Int)), (10, .pointer (some ⟨b41, 0, none⟩)), (23, .bool false), (31, .bool true), (55, .bool false)] (fun U56 => ?_)
        have x6 := SG.blk s55 x6 (by simp)
        have x51 := SG.blk s55 x51 (by simp)
        have c57 := (SG.belowR c54 s55 (fun kq e => by cases e))
        refine h14 _ _ ?_
        refine wp_cond_false (by kernel_rfl) ?_
        refine wp_skip ?_
        refine h12 _ _ ?_
        refine W.region_quiet [(0, false), (1, false), (2, false)] (by kernel_rfl) ?_
        refine W.mv (v := .int .i64 ((i : Nat) : Int)) (h := ?_)
        refine W.q (v := .int .i64 ((i + 1 : Nat) : Int)) (hr := (r_add (m := ((i : Nat) : Int)) (n := 1) (z := ((i + 1 : Nat) : Int)) rfl (by kernel_rfl) (by kernel_rfl) (by omega) (by omega))) (h := ?_)
        refine W.as (v := .int .i64 ((i + 1 : Nat) : Int)) (h := ?_)
        refine W.endF 58 [(0, .string s), (2, .pointer (some ⟨b2, 0, none⟩)), (3, .bool false), (4, .string (headB s 32)), (5, .string (tailB s 32)), (6, .bool true), (7, .int .i64 0), (8, (.iface tq N30)), (9, .int .i64 ((i + 1 : Nat) : Int)), (10, .pointer (some ⟨b41, 0, none⟩)), (23, .bool false), (31, .bool true), (55, .bool false)] (fun U58 => ?_)
        exact h9 _ _ _ (by omega : (5 - (i + 1)) < _) ⟨i + 1, (fun iU9 => lk [(0, .string s), (2, .pointer (some ⟨b2, 0, none⟩)), (3, .bool false), (4, .string (headB s 32)), (5, .string (tailB s 32)), (6, .bool true), (7, .int .i64 0), (8, (.iface tq N30)), (9, .int .i64 ((i + 1 : Nat) : Int)), (10, .pointer (some ⟨b41, 0, none⟩)), (23, .bool false), (31, .bool true), (55, .bool false)] iU9 (U58 iU9)), (by kernel_rfl), rfl, (by omega), x6, c57⟩
      · refine W.q (v := .bool false) (hr := (r_leq (m := ((i : Nat) : Int)) (n := 4) rfl (by kernel_rfl) (by kernel_rfl) (decide_eq_false q38))) (h := ?_)
        refine W.endF 58 [(0, .string s), (2, .pointer (some ⟨b2, 0, none⟩)), (3, .bool false), (4, .string (headB s 32)), (5, .string (tailB s 32)), (6, .bool true), (7, .int .i64 0), (8, (.iface tq N30)), (9, .int .i64 ((i : Nat) : Int)), (23, .bool false), (31, .bool false)] (fun U59 => ?_)
        refine h11 _ _ ?_
        refine wp_cond_false (by kernel_rfl) ?_
        refine wp_exit ?_
        refine h7 _ _ ?_
        refine wp_seq_k (fun K15 h15 => ?_)
        refine W.region_plain (row := (some b2)) [(0, false), (1, true), (2, false)] (by kernel_rfl) ?_
        have s60 := SG.self wl0 (some b2)
        refine W.q (v := .agg #[.int .i64 0, .int .i64 0]) (hr := (r_build rfl (vs := []) (by kernel_rfl) (by kernel_rfl))) (h := ?_)
        refine W.ss (v := .agg #[.int .i64 0, .int .i64 0]) (j := 0) (news := [.int .i64 0, .int .i64 0]) (cs' := #[.int .i64 0, .int .i64 0]) s60 rfl (by kernel_rfl) rfl rfl (by kernel_rfl) (by kernel_rfl) x6 (by kernel_rfl) (by kernel_rfl) (by simp) (by kernel_rfl) (by kernel_rfl) (.inl rfl) (fun w61 g62 x63 s64 => ?_)
        refine W.as (v := .bool false) (h := ?_)
        refine W.endF 58 [(0, .string s), (2, .pointer (some ⟨b2, 0, none⟩)), (3, .bool false), (4, .string (headB s 32)), (5, .string (tailB s 32)), (6, .bool true), (7, .int .i64 0), (8, (.iface tq N30)), (9, .int .i64 ((i : Nat) : Int)), (23, .bool false), (31, .bool false)] (fun U65 => ?_)
        have c66 := (SG.belowR c37 s64 (fun kq e => by cases e; exact lo8))
        refine h15 _ _ ?_
        refine wp_ret ?_
        try simp only [Exit.then]
        refine retCT (x := .bool false) rfl (by kernel_rfl) (by kernel_rfl) (by kernel_rfl) (by kernel_rfl) x63 ?_
        obtain ⟨e1, e2, e3⟩ := par_no (s := s) (fun v k hg e => by have h9 := amt_val e; rw [h9, itoaB_list, atoi_itoa] at hat; cases hat)
        exact ⟨by rw [e1, e2, e3], c66⟩
  · rw [q18]
    refine W.q (v := .bool true) (hr := (r_not (b := false) rfl (by kernel_rfl) rfl)) (h := ?_)
    refine W.mv (v := .bool true) (h := ?_)
    refine W.sp rfl (h := ?_)
    refine W.sp rfl (h := ?_)
    refine W.sp rfl (h := ?_)
    refine W.q (v := .bool true) (hr := (r_pick (b := true) rfl (by kernel_rfl) (by kernel_rfl))) (h := ?_)
    refine W.endF 58 [(0, .string s), (2, .pointer (some ⟨b2, 0, none⟩)), (3, .bool false), (4, .string (headB s 32)), (5, .string (tailB s 32)), (6, .bool false), (23, .bool true)] (fun U67 => ?_)
    refine h4 _ _ ?_
    refine wp_cond_true (by kernel_rfl) ?_
    refine wp_seq_k (fun K16 h16 => ?_)
    refine W.region_plain (row := (some b2)) [(0, false), (1, true), (2, false)] (by kernel_rfl) ?_
    have s68 := SG.self w14 (some b2)
    refine W.q (v := .agg #[.int .i64 0, .int .i64 0]) (hr := (r_build rfl (vs := []) (by kernel_rfl) (by kernel_rfl))) (h := ?_)
    refine W.ss (v := .agg #[.int .i64 0, .int .i64 0]) (j := 0) (news := [.int .i64 0, .int .i64 0]) (cs' := #[.int .i64 0, .int .i64 0]) s68 rfl (by kernel_rfl) rfl rfl (by kernel_rfl) (by kernel_rfl) x6 (by kernel_rfl) (by kernel_rfl) (by simp) (by kernel_rfl) (by kernel_rfl) (.inl rfl) (fun w69 g70 x71 s72 => ?_)
    refine W.as (v := .bool false) (h := ?_)
    refine W.endF 58 [(0, .string s), (2, .pointer (some ⟨b2, 0, none⟩)), (3, .bool false), (4, .string (headB s 32)), (5, .string (tailB s 32)), (6, .bool false), (23, .bool true)] (fun U73 => ?_)
    have c74 := (SG.belowR c17 s72 (fun kq e => by cases e; exact lo8))
    refine h16 _ _ ?_
    refine wp_ret ?_
    try simp only [Exit.then]
    refine retCT (x := .bool false) rfl (by kernel_rfl) (by kernel_rfl) (by kernel_rfl) (by kernel_rfl) x71 ?_
    obtain ⟨e1, e2, e3⟩ := par_no (s := s) (fun v k hg e => by have h9 := textA_stands v k; rw [e, q18] at h9; cases h9)
    exact ⟨by rw [e1, e2, e3], c74⟩

set_option maxRecDepth 100000 in
set_option maxHeartbeats 1000000 in
theorem ParseAmount_big (s : ByteArray) (w : World) (hs : s.size ≤ 1048576) (hmax : MaxIs w) (h7 : ¬ (headB s 32).size ≤ 7) :
    Calls Tryd.prog 26 #[.string s] w fun e w' => e = .returned (.tuple #[.agg #[.int .i64 (ParseAmount_vv s), .int .i64 (ParseAmount_vu s)], .bool (ParseAmount_v1 s)]) ∧ Below w.heap.size w w' := by
  go_enter Tryd.func26, Tryd.ntmps26
  refine wp_seq_k (fun K1 h1 => ?_)
  refine W.region_plain (row := none) [(0, true), (1, false)] (by kernel_rfl) ?_
  have s1 := SG.self w none
  refine W.sn (fun b => .pointer (some ⟨b, 0, none⟩)) #[.int .i64 0, .int .i64 0] 26 s1 rfl (by kernel_rfl) rfl (fun _ => by kernel_rfl) (fun b2 w3 hb4 k5 x6 s7 => ?_)
  have lo8 : w.heap.size ≤ b2 := by have := ((SG.belowR (Below.refl _ _) s1 (fun kq e => by cases e))).size; omega
  refine W.as (v := .bool false) (h := ?_)
  refine W.endF 58 [(0, .string s), (2, .pointer (some ⟨b2, 0, none⟩)), (3, .bool false)] (fun U9 => ?_)
  have c10 := (SG.belowR (Below.refl _ _) s7 (fun kq e => by cases e))
  refine h1 _ _ ?_
  refine wp_seq_k (fun K2 h2 => ?_)
  refine W.region_plain (row := none) [(0, false), (1, true), (2, false), (3, false), (4, false), (5, false), (6, false), (7, false), (8, false)] (by kernel_rfl) ?_
  have s11 := SG.self w3 none
  refine W.mv (v := .string s) (h := ?_)
  refine W.sc (vs := [.string s, .string (⟨#[32]⟩ : ByteArray)]) rfl rfl (by kernel_rfl) (by kernel_rfl) (by kernel_rfl) rfl (cut_lib s 32 _ (by omega) (max_kept hmax (SG.belowR c10 s11 (fun kq e => by cases e)))) ?_
  rintro e w14 ⟨r12, rfl, rfl, b13⟩
  have s15 := SG.of_below s11 b13
  refine ⟨_, rfl, s15, ?_⟩
  refine W.mv (v := .tuple #[.string (headB s 32), .string (tailB s 32), .bool (standsB s 32)]) (h := ?_)
  refine W.q (v := .string (headB s 32)) (hr := (r_extract (vs := #[.string (headB s 32), .string (tailB s 32), .bool (standsB s 32)]) rfl (by kernel_rfl) (by kernel_rfl))) (h := ?_)
  refine W.q (v := .string (tailB s 32)) (hr := (r_extract (vs := #[.string (headB s 32), .string (tailB s 32), .bool (standsB s 32)]) rfl (by kernel_rfl) (by kernel_rfl))) (h := ?_)
  refine W.q (v := .bool (standsB s 32)) (hr := (r_extract (vs := #[.string (headB s 32), .string (tailB s 32), .bool (standsB s 32)]) rfl (by kernel_rfl) (by kernel_rfl))) (h := ?_)
  refine W.as (v := .string (headB s 32)) (h := ?_)
  refine W.as (v := .string (tailB s 32)) (h := ?_)
  refine W.as (v := .bool (standsB s 32)) (h := ?_)
  refine W.endF 58 [(0, .string s), (2, .pointer (some ⟨b2, 0, none⟩)), (3, .bool false), (4, .string (headB s 32)), (5, .string (tailB s 32)), (6, .bool (standsB s 32))] (fun U16 => ?_)
  have x6 := SG.blk s15 x6 (by simp)
  have c17 := (SG.belowR c10 s15 (fun kq e => by cases e))
  refine h2 _ _ ?_
  refine wp_seq_k (fun K3 h3 => ?_)
  refine wp_seq_k (fun K4 h4 => ?_)
  refine W.region_quiet [(0, false), (1, false), (2, false), (3, false), (4, false), (5, false), (6, false)] (by kernel_rfl) ?_
  refine W.mv (v := .bool (standsB s 32)) (h := ?_)
  rcases Bool.eq_false_or_eq_true (standsB s 32) with q18 | q18
  · rw [q18]
    refine W.q (v := .bool false) (hr := (r_not (b := true) rfl (by kernel_rfl) rfl)) (h := ?_)
    refine W.mv (v := .bool false) (h := ?_)
    refine W.mv (v := .string (headB s 32)) (h := ?_)
    refine W.q (v := .int .i64 (((headB s 32).size : Nat) : Int)) (hr := (r_lenS (s := (headB s 32)) rfl (by kernel_rfl) (by kernel_rfl))) (h := ?_)
    refine W.q (v := .bool true) (hr := (r_gtr (m := (((headB s 32).size : Nat) : Int)) (n := 7) rfl (by kernel_rfl) (by kernel_rfl) (decide_eq_true (by omega)))) (h := ?_)
    refine W.q (v := .bool true) (hr := (r_pick (b := false) rfl (by kernel_rfl) (by kernel_rfl))) (h := ?_)
    refine W.endF 58 [(0, .string s), (2, .pointer (some ⟨b2, 0, none⟩)), (3, .bool false), (4, .string (headB s 32)), (5, .string (tailB s 32)), (6, .bool true), (23, .bool true)] (fun U19 => ?_)
    refine h4 _ _ ?_
    refine wp_cond_true (by kernel_rfl) ?_
    refine wp_seq_k (fun K5 h5 => ?_)
    refine W.region_plain (row := (some b2)) [(0, false), (1, true), (2, false)] (by kernel_rfl) ?_
    have s20 := SG.self w14 (some b2)
    refine W.q (v := .agg #[.int .i64 0, .int .i64 0]) (hr := (r_build rfl (vs := []) (by kernel_rfl) (by kernel_rfl))) (h := ?_)
    refine W.ss (v := .agg #[.int .i64 0, .int .i64 0]) (j := 0) (news := [.int .i64 0, .int .i64 0]) (cs' := #[.int .i64 0, .int .i64 0]) s20 rfl (by kernel_rfl) rfl rfl (by kernel_rfl) (by kernel_rfl) x6 (by kernel_rfl) (by kernel_rfl) (by simp) (by kernel_rfl) (by kernel_rfl) (.inl rfl) (fun w21 g22 x23 s24 => ?_)
    refine W.as (v := .bool false) (h := ?_)
    refine W.endF 58 [(0, .string s), (2, .pointer (some ⟨b2, 0, none⟩)), (3, .bool false), (4, .string (headB s 32)), (5, .string (tailB s 32)), (6, .bool true), (23, .bool true)] (fun U25 => ?_)
    have c26 := (SG.belowR c17 s24 (fun kq e => by cases e; exact lo8))
    refine h5 _ _ ?_
    refine wp_ret ?_
    try simp only [Exit.then]
    refine retCT (x := .bool false) rfl (by kernel_rfl) (by kernel_rfl) (by kernel_rfl) (by kernel_rfl) x23 ?_
    obtain ⟨e1, e2, e3⟩ := par_no (s := s) (fun v k hg e => by have h9 := itoaB_7 hg.1; rw [← amt_val e] at h9; omega)
    exact ⟨by rw [e1, e2, e3], c26⟩
  · rw [q18]
    refine W.q (v := .bool true) (hr := (r_not (b := false) rfl (by kernel_rfl) rfl)) (h := ?_)
    refine W.mv (v := .bool true) (h := ?_)
    refine W.sp rfl (h := ?_)
    refine W.sp rfl (h := ?_)
    refine W.sp rfl (h := ?_)
    refine W.q (v := .bool true) (hr := (r_pick (b := true) rfl (by kernel_rfl) (by kernel_rfl))) (h := ?_)
    refine W.endF 58 [(0, .string s), (2, .pointer (some ⟨b2, 0, none⟩)), (3, .bool false), (4, .string (headB s 32)), (5, .string (tailB s 32)), (6, .bool false), (23, .bool true)] (fun U27 => ?_)
    refine h4 _ _ ?_
    refine wp_cond_true (by kernel_rfl) ?_
    refine wp_seq_k (fun K6 h6 => ?_)
    refine W.region_plain (row := (some b2)) [(0, false), (1, true), (2, false)] (by kernel_rfl) ?_
    have s28 := SG.self w14 (some b2)
    refine W.q (v := .agg #[.int .i64 0, .int .i64 0]) (hr := (r_build rfl (vs := []) (by kernel_rfl) (by kernel_rfl))) (h := ?_)
    refine W.ss (v := .agg #[.int .i64 0, .int .i64 0]) (j := 0) (news := [.int .i64 0, .int .i64 0]) (cs' := #[.int .i64 0, .int .i64 0]) s28 rfl (by kernel_rfl) rfl rfl (by kernel_rfl) (by kernel_rfl) x6 (by kernel_rfl) (by kernel_rfl) (by simp) (by kernel_rfl) (by kernel_rfl) (.inl rfl) (fun w29 g30 x31 s32 => ?_)
    refine W.as (v := .bool false) (h := ?_)
    refine W.endF 58 [(0, .string s), (2, .pointer (some ⟨b2, 0, none⟩)), (3, .bool false), (4, .string (headB s 32)), (5, .string (tailB s 32)), (6, .bool false), (23, .bool true)] (fun U33 => ?_)
    have c34 := (SG.belowR c17 s32 (fun kq e => by cases e; exact lo8))
    refine h6 _ _ ?_
    refine wp_ret ?_
    try simp only [Exit.then]
    refine retCT (x := .bool false) rfl (by kernel_rfl) (by kernel_rfl) (by kernel_rfl) (by kernel_rfl) x31 ?_
    obtain ⟨e1, e2, e3⟩ := par_no (s := s) (fun v k hg e => by have h9 := textA_stands v k; rw [e, q18] at h9; cases h9)
    exact ⟨by rw [e1, e2, e3], c34⟩

theorem atoi_bd {s : ByteArray} {n : Int} (h7 : s.size ≤ 7) (h : Lib.atoi s.data.toList = some n) : -9223372036854775808 ≤ n ∧ n ≤ 9223372036854775807 := by
  have h1 := Lib.atoi_bound h (by rw [← Lib.size_eq]; omega)
  omega

theorem ParseAmount_impl (s : ByteArray) (w : World) (hs : s.size ≤ 1048576) (hmax : MaxIs w) (htab : Lib.TabIs Tryd.prog w "internal/strconv.uint64pow10" .u64 Lib.pow10Tab) (hnm : Names w) (hev : EvIs w) : Calls Tryd.prog 26 #[.string s] w fun e w' => e = .returned (.tuple #[.agg #[.int .i64 (ParseAmount_vv s), .int .i64 (ParseAmount_vu s)], .bool (ParseAmount_v1 s)]) ∧ Below w.heap.size w w' := by
  cases h : Lib.atoi (headB s 32).data.toList with
  | none => exact ParseAmount_err s w hs hmax htab hnm hev h
  | some n =>
    by_cases h7 : (headB s 32).size ≤ 7
    · exact ParseAmount_ok s n w hs hmax htab hnm hev h (atoi_bd h7 h)
    · exact ParseAmount_big s w hs hmax h7

set_option maxRecDepth 100000 in
set_option maxHeartbeats 1000000 in
theorem eqAmount_any (x y : Int) (w : World) :
    Calls Tryd.prog 27 #[.agg #[.int .i64 x, .int .i64 y], .agg #[.int .i64 x, .int .i64 y]] w fun e w' => e = .returned (.bool true) ∧ Below w.heap.size w w' := by
  go_enter Tryd.func27, Tryd.ntmps27
  refine wp_seq_k (fun K1 h1 => ?_)
  refine W.region_plain (row := none) [(0, true), (1, true), (2, false)] (by kernel_rfl) ?_
  have s1 := SG.self w none
  refine W.sn (fun b => .pointer (some ⟨b, 0, none⟩)) #[.int .i64 x, .int .i64 y] 26 s1 rfl (by kernel_rfl) rfl (fun _ => by kernel_rfl) (fun b2 w3 hb4 k5 x6 s7 => ?_)
  have lo8 : w.heap.size ≤ b2 := by have := ((SG.belowR (Below.refl _ _) s1 (fun kq e => by cases e))).size; omega
  refine W.sn (fun b => .pointer (some ⟨b, 0, none⟩)) #[.int .i64 x, .int .i64 y] 26 s7 rfl (by kernel_rfl) rfl (fun _ => by kernel_rfl) (fun b9 w10 hb11 k12 x13 s14 => ?_)
  have lo15 : w.heap.size ≤ b9 := by have := ((SG.belowR (Below.refl _ _) s7 (fun kq e => by cases e))).size; omega
  have ne16 : b2 ≠ b9 := by have := blk_lt x6; omega
  have x6 := (k12.block _ (blk_lt x6)).trans x6
  refine W.as (v := .bool false) (h := ?_)
  refine W.endF 15 [(0, .agg #[.int .i64 x, .int .i64 y]), (1, .agg #[.int .i64 x, .int .i64 y]), (2, .pointer (some ⟨b2, 0, none⟩)), (3, .pointer (some ⟨b9, 0, none⟩)), (4, .bool false)] (fun U17 => ?_)
  have c18 := (SG.belowR (Below.refl _ _) s14 (fun kq e => by cases e))
  refine h1 _ _ ?_
  refine wp_seq_k (fun K2 h2 => ?_)
  refine wp_seq_k (fun K3 h3 => ?_)
  refine W.region_quiet [(0, false), (1, false), (2, false), (3, false), (4, false)] (by kernel_rfl) ?_
  refine W.q (v := .pointer (some ⟨b2, 0, none⟩)) (hr := (r_field0 rfl (by kernel_rfl) (by kernel_rfl))) (h := ?_)
  refine W.ld (v := .int .i64 x) (hc := (eqS (blk_cell (j := 0) x6 (by kernel_rfl)))) (h := ?_)
  refine W.q (v := .pointer (some ⟨b9, 0, none⟩)) (hr := (r_field0 rfl (by kernel_rfl) (by kernel_rfl))) (h := ?_)
  refine W.ld (v := .int .i64 x) (hc := (eqS (blk_cell (j := 0) x13 (by kernel_rfl)))) (h := ?_)
  refine W.q (v := .bool false) (hr := (r_neq (m := x) (n := x) rfl (by kernel_rfl) (by kernel_rfl) (decide_eq_false (by omega)))) (h := ?_)
  refine W.endF 15 [(0, .agg #[.int .i64 x, .int .i64 y]), (1, .agg #[.int .i64 x, .int .i64 y]), (2, .pointer (some ⟨b2, 0, none⟩)), (3, .pointer (some ⟨b9, 0, none⟩)), (4, .bool false), (9, .bool false)] (fun U19 => ?_)
  refine h3 _ _ ?_
  refine wp_cond_false (by kernel_rfl) ?_
  refine wp_skip ?_
  refine h2 _ _ ?_
  refine wp_seq_k (fun K4 h4 => ?_)
  refine wp_seq_k (fun K5 h5 => ?_)
  refine W.region_quiet [(0, false), (1, false), (2, false), (3, false), (4, false)] (by kernel_rfl) ?_
  refine W.q (v := .pointer (some ⟨b2, 1, none⟩)) (hr := (r_field (k := 1) rfl (by kernel_rfl) (by kernel_rfl))) (h := ?_)
  refine W.ld (v := .int .i64 y) (hc := (eqS (blk_cell (j := 1) x6 (by kernel_rfl)))) (h := ?_)
  refine W.q (v := .pointer (some ⟨b9, 1, none⟩)) (hr := (r_field (k := 1) rfl (by kernel_rfl) (by kernel_rfl))) (h := ?_)
  refine W.ld (v := .int .i64 y) (hc := (eqS (blk_cell (j := 1) x13 (by kernel_rfl)))) (h := ?_)
  refine W.q (v := .bool false) (hr := (r_neq (m := y) (n := y) rfl (by kernel_rfl) (by kernel_rfl) (decide_eq_false (by omega)))) (h := ?_)
  refine W.endF 15 [(0, .agg #[.int .i64 x, .int .i64 y]), (1, .agg #[.int .i64 x, .int .i64 y]), (2, .pointer (some ⟨b2, 0, none⟩)), (3, .pointer (some ⟨b9, 0, none⟩)), (4, .bool false), (9, .bool false), (14, .bool false)] (fun U20 => ?_)
  refine h5 _ _ ?_
  refine wp_cond_false (by kernel_rfl) ?_
  refine wp_skip ?_
  refine h4 _ _ ?_
  refine wp_seq_k (fun K6 h6 => ?_)
  refine W.region_quiet [(0, false)] (by kernel_rfl) ?_
  refine W.as (v := .bool true) (h := ?_)
  refine W.endF 15 [(0, .agg #[.int .i64 x, .int .i64 y]), (1, .agg #[.int .i64 x, .int .i64 y]), (2, .pointer (some ⟨b2, 0, none⟩)), (3, .pointer (some ⟨b9, 0, none⟩)), (4, .bool true), (9, .bool false), (14, .bool false)] (fun U21 => ?_)
  refine h6 _ _ ?_
  refine wp_ret ?_
  try simp only [Exit.then]
  refine ret1 (v := .bool true) rfl (by kernel_rfl) ?_
  exact ⟨rfl, c18⟩

end Go.Proofs.YtlkphjlabmnjiaaDoor
