/- Amounts' texts: the reference. -/
import Derived.Test.YtlkphjlabmnjiaaDoorNum1
import Derived.Test.YtlkphjlabmnjiaaDoorAmount
import Derived.Test.YtlkphjlabmnjiaaDoorAmtP
import Derived.Test.YtlkphjlabmnjiaaDoorSplit
import Derived.Test.YtlkphjlabmnjiaaDoorRes
namespace Go.Proofs.YtlkphjlabmnjiaaDoor
open Go.RowKit
set_option linter.unusedVariables false
set_option linter.unusedSimpArgs false

theorem good_amt {v u : Int} (h : goodAmt v u = true) : (0 ≤ v ∧ v ≤ 1000000) ∧ 1 ≤ u ∧ u ≤ 4 := by
  unfold goodAmt at h
  obtain ⟨h1, h2⟩ := Bool.and_eq_true_iff.1 h
  exact ⟨inB_yes.1 h1, inB_yes.1 h2⟩
theorem amt_good {v u : Int} (h : (0 ≤ v ∧ v ≤ 1000000) ∧ 1 ≤ u ∧ u ≤ 4) : goodAmt v u = true := by
  unfold goodAmt
  rw [inB_yes.2 h.1, inB_yes.2 h.2]; rfl
def AmountText_v1 (v u : Int) : Bool := goodAmt v u
def AmountText_v0 (v u : Int) : ByteArray := if goodAmt v u = true then textA v u.toNat else ⟨#[]⟩
theorem at_yes {v u : Int} (h : goodAmt v u = true) : AmountText_v1 v u = true ∧ AmountText_v0 v u = textA v u.toNat := ⟨h, if_pos h⟩
theorem at_no {v u : Int} (h : goodAmt v u = false) : AmountText_v1 v u = false ∧ AmountText_v0 v u = ⟨#[]⟩ := ⟨h, if_neg (by rw [h]; simp)⟩

set_option maxRecDepth 100000 in
set_option maxHeartbeats 1000000 in
theorem l3Words_any  (w : World) :
    Calls Tryd.prog 71 #[] w fun e w' => ∃ A' n' c', e = .returned (.slice A' n' c') ∧ w'.ownsRow w.heap.size 9 1 (.slice A' n' c') n' (strsV unitsL) ∧ Below w.heap.size w w' := by
  go_enter Tryd.func71, Tryd.ntmps71
  refine wp_seq_k (fun K1 h1 => ?_)
  refine W.region_quiet [(0, false)] (by kernel_rfl) ?_
  refine W.as (v := .slice none 0 0) (h := ?_)
  refine W.endF 2 [(0, .slice none 0 0)] (fun U1 => ?_)
  refine h1 _ _ ?_
  refine wp_seq_k (fun K2 h2 => ?_)
  refine W.region_plain (row := none) [(0, true), (1, false)] (by kernel_rfl) ?_
  have s2 := SG.self w none
  refine W.sn (fun b => .slice (some ⟨b, 0, none⟩) 5 5) #[.string (⟨#[]⟩ : ByteArray), .string (⟨#[108, 47, 109, 105, 110]⟩ : ByteArray), .string (⟨#[108, 47, 115]⟩ : ByteArray), .string (⟨#[109, 51, 47, 104]⟩ : ByteArray), .string (⟨#[109, 51, 47, 100]⟩ : ByteArray)] 9 s2 rfl (by kernel_rfl) rfl (fun _ => by kernel_rfl) (fun b3 w4 hb5 k6 x7 s8 => ?_)
  have lo9 : w.heap.size ≤ b3 := by have := ((SG.belowR (Below.refl _ _) s2 (fun kq e => by cases e))).size; omega
  refine W.as (v := .slice (some ⟨b3, 0, none⟩) 5 5) (h := ?_)
  refine W.endF 2 [(0, .slice (some ⟨b3, 0, none⟩) 5 5)] (fun U10 => ?_)
  have c11 := (SG.belowR (Below.refl _ _) s8 (fun kq e => by cases e))
  refine h2 _ _ ?_
  refine wp_ret ?_
  try simp only [Exit.then]
  refine ret1 (v := .slice (some ⟨b3, 0, none⟩) 5 5) rfl (by kernel_rfl) ?_
  have ho12 := own_blk (base := w.heap.size) (size := 1) (n := 5) x7 lo9 rfl (by omega)
  replace ho12 : World.ownsRow _ _ _ _ _ _ (strsV [(⟨#[]⟩ : ByteArray), (⟨#[108, 47, 109, 105, 110]⟩ : ByteArray), (⟨#[108, 47, 115]⟩ : ByteArray), (⟨#[109, 51, 47, 104]⟩ : ByteArray), (⟨#[109, 51, 47, 100]⟩ : ByteArray)]) := ho12
  exact ⟨_, _, _, rfl, ho12, c11⟩

set_option maxRecDepth 100000 in
set_option maxHeartbeats 1000000 in
theorem l3Text_nat (v : Int) (k : Nat) (w : World) (hv : 0 ≤ v ∧ v ≤ 1000000) (hk : 1 ≤ k ∧ k ≤ 4) :
    Calls Tryd.prog 52 #[.agg #[.int .i64 v, .int .i64 ((k : Nat) : Int)]] w fun e w' => e = .returned (.string (textA v k)) ∧ Below w.heap.size w w' := by
  go_enter Tryd.func52, Tryd.ntmps52
  refine wp_seq_k (fun K1 h1 => ?_)
  refine W.region_plain (row := none) [(0, true), (1, false)] (by kernel_rfl) ?_
  have s1 := SG.self w none
  refine W.sn (fun b => .pointer (some ⟨b, 0, none⟩)) #[.int .i64 v, .int .i64 ((k : Nat) : Int)] 26 s1 rfl (by kernel_rfl) rfl (fun _ => by kernel_rfl) (fun b2 w3 hb4 k5 x6 s7 => ?_)
  have lo8 : w.heap.size ≤ b2 := by have := ((SG.belowR (Below.refl _ _) s1 (fun kq e => by cases e))).size; omega
  refine W.as (v := .string (⟨#[]⟩ : ByteArray)) (h := ?_)
  refine W.endF 13 [(0, .agg #[.int .i64 v, .int .i64 ((k : Nat) : Int)]), (1, .pointer (some ⟨b2, 0, none⟩)), (2, .string (⟨#[]⟩ : ByteArray))] (fun U9 => ?_)
  have c10 := (SG.belowR (Below.refl _ _) s7 (fun kq e => by cases e))
  refine h1 _ _ ?_
  refine wp_seq_k (fun K2 h2 => ?_)
  refine W.region_sch (row := none) (Sch.of [(0, false), (1, false), (5, false), (6, false), (2, true), (3, false), (4, true), (7, false), (8, true), (9, false), (10, false)]) (by kernel_rfl) (by kernel_rfl) (fun _ d _ _ _ h => by cases d <;> exact h) (by kernel_rfl) (fun w11 e12 s13 => ?_)
  refine W.q (v := .pointer (some ⟨b2, 0, none⟩)) (hr := (r_field0 rfl (by kernel_rfl) (by kernel_rfl))) (h := ?_)
  refine W.ld (v := .int .i64 v) (hc := (sgS (blk_cell (j := 0) x6 (by kernel_rfl)) (by simp))) (h := ?_)
  refine W.q (v := .pointer (some ⟨b2, 1, none⟩)) (hr := (r_field (k := 1) rfl (by kernel_rfl) (by kernel_rfl))) (h := ?_)
  refine W.ld (v := .int .i64 ((k : Nat) : Int)) (hc := (sgS (blk_cell (j := 1) x6 (by kernel_rfl)) (by simp))) (h := ?_)
  refine W.sc (vs := [.int .i64 v]) rfl rfl (by kernel_rfl) (by kernel_rfl) (by kernel_rfl) rfl (l1Num_any v (by omega) (by omega) _) ?_
  rintro e w15 ⟨rfl, b14⟩
  have s16 := SG.of_below s13 b14
  refine ⟨_, rfl, s16, ?_⟩
  refine W.q (v := .string ((itoaB v) ++ (⟨#[32]⟩ : ByteArray))) (hr := (r_addS (s := (itoaB v)) (r := (⟨#[32]⟩ : ByteArray)) rfl (by kernel_rfl) (by kernel_rfl) (by (try simp only [ByteArray.size_append]); have := itoaB_le (n := v) (by omega) (by omega);  have h32 := size1 32; have h46 := size1 46; omega))) (h := ?_)
  have z22 := ((SG.belowR c10 s16 (fun kq e => by cases e))).size
  refine W.sc (vs := []) rfl rfl (by kernel_rfl) (by kernel_rfl) (by kernel_rfl) rfl (l3Words_any _) ?_
  rintro e w27 ⟨A17, n18, c19, rfl, ho20, b26⟩
  have s28 := SG.of_below s16 b26
  refine ⟨_, rfl, s28, ?_⟩
  have ho21 := own_base (base' := w.heap.size) ho20 z22
  have hl24 := rd_strs_len (own_rd ho21)
  have hl24p : unitsL.length = 5 := rfl
  obtain ⟨g25, rfl, _, _⟩ := own_addr ho21 (by omega)
  have nb29 : Nb b2 (.slice (some ⟨g25, 0, none⟩) n18 c19) := nb_lo ho20 (Nat.lt_of_lt_of_le (blk_lt x6) (s16).size)
  refine W.q (v := .pointer (some ⟨g25, k, none⟩)) (hr := (r_idx0 (n := n18) (c := c19) (k := k) rfl (by kernel_rfl) (by kernel_rfl) (by kernel_rfl) (by omega))) (h := ?_)
  refine W.slq (v := .string (unitB k)) s28 rfl (r_load rfl (by kernel_rfl) (by kernel_rfl) (eqS (own_atS ho21 (unitsL_at (k := k) (by omega))))) (by kernel_rfl) rfl ?_
  refine W.q (v := .string (((itoaB v) ++ (⟨#[32]⟩ : ByteArray)) ++ (unitB k))) (hr := (r_addS (s := ((itoaB v) ++ (⟨#[32]⟩ : ByteArray))) (r := (unitB k)) rfl (by kernel_rfl) (by kernel_rfl) (by (try simp only [ByteArray.size_append]); have := itoaB_le (n := v) (by omega) (by omega); have := unitB_le k; have h32 := size1 32; have h46 := size1 46; omega))) (h := ?_)
  refine W.as (v := .string (((itoaB v) ++ (⟨#[32]⟩ : ByteArray)) ++ (unitB k))) (h := ?_)
  refine W.endF 13 [(0, .agg #[.int .i64 v, .int .i64 ((k : Nat) : Int)]), (1, .pointer (some ⟨b2, 0, none⟩)), (2, .string (((itoaB v) ++ (⟨#[32]⟩ : ByteArray)) ++ (unitB k)))] (fun U30 => ?_)
  have x6 := SG.blk s28 x6 (by simp)
  have c31 := (SG.belowR c10 s28 (fun kq e => by cases e))
  refine h2 _ _ ?_
  refine wp_ret ?_
  try simp only [Exit.then]
  refine ret1 (v := .string (((itoaB v) ++ (⟨#[32]⟩ : ByteArray)) ++ (unitB k))) rfl (by kernel_rfl) ?_
  exact ⟨rfl, c31⟩

theorem l3Text_any (v u : Int) (w : World) (hv : 0 ≤ v ∧ v ≤ 1000000) (hu : 1 ≤ u ∧ u ≤ 4) : Calls Tryd.prog 52 #[.agg #[.int .i64 v, .int .i64 u]] w fun e w' => e = .returned (.string (textA v u.toNat)) ∧ Below w.heap.size w w' := by
  obtain ⟨k, rfl⟩ := Int.eq_ofNat_of_zero_le (show 0 ≤ u by omega)
  exact l3Text_nat v k w hv (by omega)

set_option maxRecDepth 100000 in
set_option maxHeartbeats 1000000 in
theorem AmountText_spec (v u : Int) (w : World) :
    Calls Tryd.prog 21 #[.agg #[.int .i64 v, .int .i64 u]] w fun e w' => e = .returned (.tuple #[.string (AmountText_v0 v u), .bool (AmountText_v1 v u)]) ∧ Below w.heap.size w w' := by
  go_enter Tryd.func21, Tryd.ntmps21
  refine wp_seq_k (fun K1 h1 => ?_)
  refine W.region_plain (row := none) [(0, true), (1, false), (2, false)] (by kernel_rfl) ?_
  have s1 := SG.self w none
  refine W.sn (fun b => .pointer (some ⟨b, 0, none⟩)) #[.int .i64 v, .int .i64 u] 26 s1 rfl (by kernel_rfl) rfl (fun _ => by kernel_rfl) (fun b2 w3 hb4 k5 x6 s7 => ?_)
  have lo8 : w.heap.size ≤ b2 := by have := ((SG.belowR (Below.refl _ _) s1 (fun kq e => by cases e))).size; omega
  refine W.as (v := .string (⟨#[]⟩ : ByteArray)) (h := ?_)
  refine W.as (v := .bool false) (h := ?_)
  refine W.endF 9 [(0, .agg #[.int .i64 v, .int .i64 u]), (1, .pointer (some ⟨b2, 0, none⟩)), (2, .string (⟨#[]⟩ : ByteArray)), (3, .bool false)] (fun U9 => ?_)
  have c10 := (SG.belowR (Below.refl _ _) s7 (fun kq e => by cases e))
  refine h1 _ _ ?_
  refine wp_seq_k (fun K2 h2 => ?_)
  refine wp_seq_k (fun K3 h3 => ?_)
  refine W.region_plain (row := none) [(0, false), (1, true), (2, false)] (by kernel_rfl) ?_
  have s11 := SG.self w3 none
  refine W.q (v := .agg #[.int .i64 v, .int .i64 u]) (hr := (r_load2 rfl (by kernel_rfl) (by kernel_rfl) (by kernel_rfl) (sgS (blk_cell (j := 0) x6 (by kernel_rfl)) (by simp)) (sgS (blk_cell (j := 1) x6 (by kernel_rfl)) (by simp)))) (h := ?_)
  refine W.sc (vs := [.agg #[.int .i64 v, .int .i64 u]]) rfl rfl (by kernel_rfl) (by kernel_rfl) (by kernel_rfl) rfl (l3Good_any v u _) ?_
  rintro e w13 ⟨rfl, b12⟩
  have s14 := SG.of_below s11 b12
  refine ⟨_, rfl, s14, ?_⟩
  rcases Bool.eq_false_or_eq_true (goodAmt v u) with q15 | q15
  · rw [q15]
    have hg9 := good_amt q15
    have hgv := hg9.1
    have hgu := hg9.2
    refine W.q (v := .bool false) (hr := (r_not (b := true) rfl (by kernel_rfl) rfl)) (h := ?_)
    refine W.endF 9 [(0, .agg #[.int .i64 v, .int .i64 u]), (1, .pointer (some ⟨b2, 0, none⟩)), (2, .string (⟨#[]⟩ : ByteArray)), (3, .bool false), (6, .bool false)] (fun U16 => ?_)
    have x6 := SG.blk s14 x6 (by simp)
    have c17 := (SG.belowR c10 s14 (fun kq e => by cases e))
    refine h3 _ _ ?_
    refine wp_cond_false (by kernel_rfl) ?_
    refine wp_skip ?_
    refine h2 _ _ ?_
    refine wp_seq_k (fun K4 h4 => ?_)
    refine W.region_plain (row := none) [(0, false), (1, true), (2, false), (3, false)] (by kernel_rfl) ?_
    have s18 := SG.self w13 none
    refine W.q (v := .agg #[.int .i64 v, .int .i64 u]) (hr := (r_load2 rfl (by kernel_rfl) (by kernel_rfl) (by kernel_rfl) (sgS (blk_cell (j := 0) x6 (by kernel_rfl)) (by simp)) (sgS (blk_cell (j := 1) x6 (by kernel_rfl)) (by simp)))) (h := ?_)
    refine W.sc (vs := [.agg #[.int .i64 v, .int .i64 u]]) rfl rfl (by kernel_rfl) (by kernel_rfl) (by kernel_rfl) rfl (l3Text_any v u _ (by omega) (by omega)) ?_
    rintro e w20 ⟨rfl, b19⟩
    have s21 := SG.of_below s18 b19
    refine ⟨_, rfl, s21, ?_⟩
    refine W.as (v := .string (textA v u.toNat)) (h := ?_)
    refine W.as (v := .bool true) (h := ?_)
    refine W.endF 9 [(0, .agg #[.int .i64 v, .int .i64 u]), (1, .pointer (some ⟨b2, 0, none⟩)), (2, .string (textA v u.toNat)), (3, .bool true), (6, .bool false)] (fun U22 => ?_)
    have x6 := SG.blk s21 x6 (by simp)
    have c23 := (SG.belowR c17 s21 (fun kq e => by cases e))
    refine h4 _ _ ?_
    refine wp_ret ?_
    try simp only [Exit.then]
    refine ret2 (v := .string (textA v u.toNat)) (x := .bool true) rfl (by kernel_rfl) (by kernel_rfl) ?_
    obtain ⟨e1, e2⟩ := at_yes q15
    exact ⟨by rw [e1, e2], c23⟩
  · rw [q15]
    refine W.q (v := .bool true) (hr := (r_not (b := false) rfl (by kernel_rfl) rfl)) (h := ?_)
    refine W.endF 9 [(0, .agg #[.int .i64 v, .int .i64 u]), (1, .pointer (some ⟨b2, 0, none⟩)), (2, .string (⟨#[]⟩ : ByteArray)), (3, .bool false), (6, .bool true)] (fun U24 => ?_)
    have x6 := SG.blk s14 x6 (by simp)
    have c25 := (SG.belowR c10 s14 (fun kq e => by cases e))
    refine h3 _ _ ?_
    refine wp_cond_true (by kernel_rfl) ?_
    refine wp_seq_k (fun K5 h5 => ?_)
    refine W.region_quiet [(0, false), (1, false)] (by kernel_rfl) ?_
    refine W.as (v := .string (⟨#[]⟩ : ByteArray)) (h := ?_)
    refine W.as (v := .bool false) (h := ?_)
    refine W.endF 9 [(0, .agg #[.int .i64 v, .int .i64 u]), (1, .pointer (some ⟨b2, 0, none⟩)), (2, .string (⟨#[]⟩ : ByteArray)), (3, .bool false), (6, .bool true)] (fun U26 => ?_)
    refine h5 _ _ ?_
    refine wp_ret ?_
    try simp only [Exit.then]
    refine ret2 (v := .string (⟨#[]⟩ : ByteArray)) (x := .bool false) rfl (by kernel_rfl) (by kernel_rfl) ?_
    obtain ⟨e1, e2⟩ := at_no q15
    exact ⟨by rw [e1, e2], c25⟩

theorem amt_val {s : ByteArray} {v : Int} {k : Nat} (e : textA v k = s) : headB s 32 = itoaB v := by rw [← e, textA_head]
theorem million : itoaB 1000000 = (⟨#[49, 48, 48, 48, 48, 48, 48]⟩ : ByteArray) := by
  have h : ∀ k : Nat, ¬ k < 10 → itoaB ((k : Nat) : Int) = itoaB ((k / 10 : Nat) : Int) ++ ⟨#[UInt8.ofNat (48 + k % 10)]⟩ := fun k h => itoaB_step h
  show itoaB ((1000000 : Nat) : Int) = _
  rw [h _ (by decide), h (1000000 / 10) (by decide), h (1000000 / 10 / 10) (by decide), h (1000000 / 10 / 10 / 10) (by decide), h (1000000 / 10 / 10 / 10 / 10) (by decide), h (1000000 / 10 / 10 / 10 / 10 / 10) (by decide), itoaB_small (k := 1000000 / 10 / 10 / 10 / 10 / 10 / 10) (by decide)]
  rfl
theorem val_million {s : ByteArray} (q : headB s 32 = (⟨#[49, 48, 48, 48, 48, 48, 48]⟩ : ByteArray)) : ∀ v k, goodK v k → textA v k = s → (1000000 : Int) = v := fun v k _ e => by
  have := amt_val e
  rw [q, ← million] at this
  exact itoaB_inj this
theorem val_read {s : ByteArray} (q : ¬ headB s 32 = (⟨#[49, 48, 48, 48, 48, 48, 48]⟩ : ByteArray)) : ∀ v k, goodK v k → textA v k = s → ParseInt_v1 (headB s 32) = true ∧ ParseInt_v0 (headB s 32) = v := fun v k h e => by
  have h1 := amt_val e
  have h2 : v ≠ 1000000 := fun h3 => q (by rw [h1, h3, million])
  have h3 := h.1
  exact num_yes ⟨by omega, by omega⟩ h1.symm
theorem unit_no {s : ByteArray} {x : Int} {i : Nat} (h : ∀ j : Nat, j < i → ¬ (goodK x j ∧ textA x j = s)) (h2 : ¬ (goodK x i ∧ textA x i = s)) : ∀ j : Nat, j < i + 1 → ¬ (goodK x j ∧ textA x j = s) := fun j hj => by
  rcases Nat.lt_succ_iff_lt_or_eq.1 hj with h3 | rfl
  · exact h j h3
  · exact h2
theorem unit_end {s : ByteArray} {x : Int} {i : Nat} (hv : ∀ v k, goodK v k → textA v k = s → x = v) (h : ∀ j : Nat, j < i → ¬ (goodK x j ∧ textA x j = s)) (hi : 4 < i) : ∀ v k, goodK v k → textA v k ≠ s := fun v k hg e => by
  obtain rfl := hv v k hg e
  exact h k (by have := hg.2; omega) ⟨hg, e⟩
theorem goodK_of {x : Int} {i : Nat} (h : goodAmt x ((i : Nat) : Int) = true) : goodK x i := by
  have := good_amt h
  exact ⟨this.1, by omega⟩
theorem not_goodK {x : Int} {i : Nat} (h : goodAmt x ((i : Nat) : Int) = false) : ¬ goodK x i := fun hg => by
  have h2 : goodAmt x ((i : Nat) : Int) = true := amt_good ⟨hg.1, by have := hg.2; omega⟩
  rw [h] at h2; cases h2
theorem goodK_zero {x : Int} : ¬ goodK x 0 := fun h => by have := h.2; omega

set_option maxRecDepth 100000 in
set_option maxHeartbeats 1000000 in
theorem ParseAmount_spec (s : ByteArray) (w : World) (hs : s.size ≤ 1048576) :
    Calls Tryd.prog 25 #[.string s] w fun e w' => e = .returned (.tuple #[.agg #[.int .i64 (ParseAmount_vv s), .int .i64 (ParseAmount_vu s)], .bool (ParseAmount_v1 s)]) ∧ Below w.heap.size w w' := by
  go_enter Tryd.func25, Tryd.ntmps25
  refine wp_seq_k (fun K1 h1 => ?_)
  refine W.region_plain (row := none) [(0, true), (1, false)] (by kernel_rfl) ?_
  have s1 := SG.self w none
  refine W.sn (fun b => .pointer (some ⟨b, 0, none⟩)) #[.int .i64 0, .int .i64 0] 26 s1 rfl (by kernel_rfl) rfl (fun _ => by kernel_rfl) (fun b2 w3 hb4 k5 x6 s7 => ?_)
  have lo8 : w.heap.size ≤ b2 := by have := ((SG.belowR (Below.refl _ _) s1 (fun kq e => by cases e))).size; omega
  refine W.as (v := .bool false) (h := ?_)
  refine W.endF 53 [(0, .string s), (2, .pointer (some ⟨b2, 0, none⟩)), (3, .bool false)] (fun U9 => ?_)
  have c10 := (SG.belowR (Below.refl _ _) s7 (fun kq e => by cases e))
  refine h1 _ _ ?_
  refine wp_seq_k (fun K2 h2 => ?_)
  refine W.region_plain (row := none) [(0, false), (1, true), (2, false)] (by kernel_rfl) ?_
  have s11 := SG.self w3 none
  refine W.mv (v := .string s) (h := ?_)
  have z17 := ((SG.belowR c10 s11 (fun kq e => by cases e))).size
  refine W.sc (vs := [.string s, .int .u8 32]) rfl rfl (by kernel_rfl) (by kernel_rfl) (by kernel_rfl) rfl (l1Split_any s 32 _ (by omega)) ?_
  rintro e w22 ⟨A12, n13, c14, rfl, ho15, b21⟩
  have s23 := SG.of_below s11 b21
  refine ⟨_, rfl, s23, ?_⟩
  have ho16 := own_base (base' := w.heap.size) ho15 z17
  have hl19 := rd_strs_len (own_rd ho16)
  have hl19p := splitL_pos s 32
  obtain ⟨g20, rfl, _, _⟩ := own_addr ho16 (by omega)
  have nb24 : Nb b2 (.slice (some ⟨g20, 0, none⟩) n13 c14) := nb_lo ho15 (Nat.lt_of_lt_of_le (blk_lt x6) (s11).size)
  refine W.as (v := .slice (some ⟨g20, 0, none⟩) n13 c14) (h := ?_)
  refine W.endF 53 [(0, .string s), (2, .pointer (some ⟨b2, 0, none⟩)), (3, .bool false), (4, .slice (some ⟨g20, 0, none⟩) n13 c14)] (fun U25 => ?_)
  have x6 := SG.blk s23 x6 (by simp)
  have c26 := (SG.belowR c10 s23 (fun kq e => by cases e))
  refine h2 _ _ ?_
  refine wp_seq_k (fun K3 h3 => ?_)
  refine wp_seq_k (fun K4 h4 => ?_)
  refine W.region_quiet [(0, false), (1, false), (2, false), (3, false), (4, false), (5, false), (6, false), (7, false)] (by kernel_rfl) ?_
  refine W.mv (v := .string s) (h := ?_)
  refine W.q (v := .int .i64 ((s.size : Nat) : Int)) (hr := (r_lenS (s := s) rfl (by kernel_rfl) (by kernel_rfl))) (h := ?_)
  by_cases q27 : (((s.size : Nat) : Int) : Int) > (20 : Int)
  · refine W.q (v := .bool true) (hr := (r_gtr (m := ((s.size : Nat) : Int)) (n := 20) rfl (by kernel_rfl) (by kernel_rfl) (decide_eq_true q27))) (h := ?_)
    refine W.mv (v := .bool true) (h := ?_)
    refine W.sp rfl (h := ?_)
    refine W.sp rfl (h := ?_)
    refine W.sp rfl (h := ?_)
    refine W.q (v := .bool true) (hr := (r_pick (b := true) rfl (by kernel_rfl) (by kernel_rfl))) (h := ?_)
    refine W.endF 53 [(0, .string s), (2, .pointer (some ⟨b2, 0, none⟩)), (3, .bool false), (4, .slice (some ⟨g20, 0, none⟩) n13 c14), (18, .bool true)] (fun U28 => ?_)
    refine h4 _ _ ?_
    refine wp_cond_true (by kernel_rfl) ?_
    refine wp_seq_k (fun K5 h5 => ?_)
    refine W.region_plain (row := (some b2)) [(0, false), (1, true), (2, false)] (by kernel_rfl) ?_
    have s29 := SG.self w22 (some b2)
    refine W.q (v := .agg #[.int .i64 0, .int .i64 0]) (hr := (r_build rfl (vs := []) (by kernel_rfl) (by kernel_rfl))) (h := ?_)
    refine W.ss (v := .agg #[.int .i64 0, .int .i64 0]) (j := 0) (news := [.int .i64 0, .int .i64 0]) (cs' := #[.int .i64 0, .int .i64 0]) s29 rfl (by kernel_rfl) rfl rfl (by kernel_rfl) (by kernel_rfl) x6 (by kernel_rfl) (by kernel_rfl) (by simp) (by kernel_rfl) (by kernel_rfl) (.inl rfl) (fun w30 g31 x32 s33 => ?_)
    have ho34 := own_grown ho16 g31 (fun j e1 e2 => by cases e2; exact nb24 e1.symm)
    refine W.as (v := .bool false) (h := ?_)
    refine W.endF 53 [(0, .string s), (2, .pointer (some ⟨b2, 0, none⟩)), (3, .bool false), (4, .slice (some ⟨g20, 0, none⟩) n13 c14), (18, .bool true)] (fun U35 => ?_)
    have c36 := (SG.belowR c26 s33 (fun kq e => by cases e; exact lo8))
    refine h5 _ _ ?_
    refine wp_ret ?_
    try simp only [Exit.then]
    refine retCT (x := .bool false) rfl (by kernel_rfl) (by kernel_rfl) (by kernel_rfl) (by kernel_rfl) x32 ?_
    obtain ⟨e1, e2, e3⟩ := par_no (s := s) (fun v k hg e => by have := textA_size hg; rw [e] at this; omega)
    exact ⟨by rw [e1, e2, e3], c36⟩
  · refine W.q (v := .bool false) (hr := (r_gtr (m := ((s.size : Nat) : Int)) (n := 20) rfl (by kernel_rfl) (by kernel_rfl) (decide_eq_false q27))) (h := ?_)
    refine W.mv (v := .bool false) (h := ?_)
    refine W.mv (v := .slice (some ⟨g20, 0, none⟩) n13 c14) (h := ?_)
    refine W.q (v := .int .i64 ((n13 : Nat) : Int)) (hr := (r_len (A := (some ⟨g20, 0, none⟩)) (n := n13) (c := c14) rfl (by kernel_rfl) (by kernel_rfl))) (h := ?_)
    by_cases q37 : (((n13 : Nat) : Int) : Int) ≠ (2 : Int)
    · refine W.q (v := .bool true) (hr := (r_neq (m := ((n13 : Nat) : Int)) (n := 2) rfl (by kernel_rfl) (by kernel_rfl) (decide_eq_true q37))) (h := ?_)
      refine W.q (v := .bool true) (hr := (r_pick (b := false) rfl (by kernel_rfl) (by kernel_rfl))) (h := ?_)
      refine W.endF 53 [(0, .string s), (2, .pointer (some ⟨b2, 0, none⟩)), (3, .bool false), (4, .slice (some ⟨g20, 0, none⟩) n13 c14), (18, .bool true)] (fun U38 => ?_)
      refine h4 _ _ ?_
      refine wp_cond_true (by kernel_rfl) ?_
      refine wp_seq_k (fun K6 h6 => ?_)
      refine W.region_plain (row := (some b2)) [(0, false), (1, true), (2, false)] (by kernel_rfl) ?_
      have s39 := SG.self w22 (some b2)
      refine W.q (v := .agg #[.int .i64 0, .int .i64 0]) (hr := (r_build rfl (vs := []) (by kernel_rfl) (by kernel_rfl))) (h := ?_)
      refine W.ss (v := .agg #[.int .i64 0, .int .i64 0]) (j := 0) (news := [.int .i64 0, .int .i64 0]) (cs' := #[.int .i64 0, .int .i64 0]) s39 rfl (by kernel_rfl) rfl rfl (by kernel_rfl) (by kernel_rfl) x6 (by kernel_rfl) (by kernel_rfl) (by simp) (by kernel_rfl) (by kernel_rfl) (.inl rfl) (fun w40 g41 x42 s43 => ?_)
      have ho44 := own_grown ho16 g41 (fun j e1 e2 => by cases e2; exact nb24 e1.symm)
      refine W.as (v := .bool false) (h := ?_)
      refine W.endF 53 [(0, .string s), (2, .pointer (some ⟨b2, 0, none⟩)), (3, .bool false), (4, .slice (some ⟨g20, 0, none⟩) n13 c14), (18, .bool true)] (fun U45 => ?_)
      have c46 := (SG.belowR c26 s43 (fun kq e => by cases e; exact lo8))
      refine h6 _ _ ?_
      refine wp_ret ?_
      try simp only [Exit.then]
      refine retCT (x := .bool false) rfl (by kernel_rfl) (by kernel_rfl) (by kernel_rfl) (by kernel_rfl) x42 ?_
      obtain ⟨e1, e2, e3⟩ := par_no (s := s) (fun v k hg e => by have h9 := textA_split v k; rw [e] at h9; have h8 := congrArg List.length h9; simp only [List.length_cons, List.length_nil] at h8; omega)
      exact ⟨by rw [e1, e2, e3], c46⟩
    · refine W.q (v := .bool false) (hr := (r_neq (m := ((n13 : Nat) : Int)) (n := 2) rfl (by kernel_rfl) (by kernel_rfl) (decide_eq_false q37))) (h := ?_)
      refine W.q (v := .bool false) (hr := (r_pick (b := false) rfl (by kernel_rfl) (by kernel_rfl))) (h := ?_)
      refine W.endF 53 [(0, .string s), (2, .pointer (some ⟨b2, 0, none⟩)), (3, .bool false), (4, .slice (some ⟨g20, 0, none⟩) n13 c14), (18, .bool false)] (fun U47 => ?_)
      refine h4 _ _ ?_
      refine wp_cond_false (by kernel_rfl) ?_
      refine wp_skip ?_
      refine h3 _ _ ?_
      refine wp_seq_k (fun K7 h7 => ?_)
      refine W.region_sch (row := none) (Sch.of [(0, false), (1, false), (2, false), (3, false), (4, false), (5, false)]) (by kernel_rfl) (by kernel_rfl) (fun _ d _ _ _ h => by cases d <;> exact h) (by kernel_rfl) (fun w48 e49 s50 => ?_)
      have ho51 := own_heap ho16 e49
      refine W.mv (v := .slice (some ⟨g20, 0, none⟩) n13 c14) (h := ?_)
      refine W.q (v := .pointer (some ⟨g20, 0, none⟩)) (hr := (r_idx0 (n := n13) (c := c14) (k := 0) rfl (by kernel_rfl) (by kernel_rfl) (by kernel_rfl) (by omega))) (h := ?_)
      refine W.ld (v := .string (headB s 32)) (hc := (sgS (own_atS ho16 (splitL_head s (c := 32) (by omega))) (by simp))) (h := ?_)
      by_cases q52 : (headB s 32) = (⟨#[49, 48, 48, 48, 48, 48, 48]⟩ : ByteArray)
      · refine W.q (v := .bool true) (hr := (r_eqlS (s := (headB s 32)) (r := (⟨#[49, 48, 48, 48, 48, 48, 48]⟩ : ByteArray)) rfl (by kernel_rfl) (by kernel_rfl) (decide_eq_true q52))) (h := ?_)
        refine W.as (v := .int .i64 1000000) (h := ?_)
        refine W.as (v := .bool true) (h := ?_)
        refine W.endF 53 [(0, .string s), (2, .pointer (some ⟨b2, 0, none⟩)), (3, .bool false), (4, .slice (some ⟨g20, 0, none⟩) n13 c14), (5, .int .i64 1000000), (6, .bool true), (18, .bool false)] (fun U53 => ?_)
        have x6 := SG.blk s50 x6 (by simp)
        have c54 := (SG.belowR c26 s50 (fun kq e => by cases e))
        refine h7 _ _ ?_
        refine wp_seq_k (fun K8 h8 => ?_)
        refine wp_seq_k (fun K9 h9 => ?_)
        refine W.region_quiet [(0, false), (1, false)] (by kernel_rfl) ?_
        refine W.mv (v := .bool true) (h := ?_)
        refine W.q (v := .bool false) (hr := (r_not (b := true) rfl (by kernel_rfl) rfl)) (h := ?_)
        refine W.endF 53 [(0, .string s), (2, .pointer (some ⟨b2, 0, none⟩)), (3, .bool false), (4, .slice (some ⟨g20, 0, none⟩) n13 c14), (5, .int .i64 1000000), (6, .bool true), (18, .bool false), (25, .bool false)] (fun U55 => ?_)
        refine h9 _ _ ?_
        refine wp_cond_false (by kernel_rfl) ?_
        refine wp_skip ?_
        refine h8 _ _ ?_
        refine wp_seq_k (fun K10 h10 => ?_)
        refine wp_seq_k (fun K11 h11 => ?_)
        refine W.region_quiet [(0, false)] (by kernel_rfl) ?_
        refine W.as (v := .int .i64 1) (h := ?_)
        refine W.endF 53 [(0, .string s), (2, .pointer (some ⟨b2, 0, none⟩)), (3, .bool false), (4, .slice (some ⟨g20, 0, none⟩) n13 c14), (5, .int .i64 1000000), (6, .bool true), (7, .int .i64 1), (18, .bool false), (25, .bool false)] (fun U56 => ?_)
        refine h11 _ _ ?_
        refine wp_block ?_
        have hval := val_million q52
        refine loopK (fun am0 aa0 wl0 => ∃ (i : Nat) (U0 : Nat → Value), aa0 = ⟨(fr U0 [(0, .string s), (2, .pointer (some ⟨b2, 0, none⟩)), (3, .bool false), (4, .slice (some ⟨g20, 0, none⟩) n13 c14), (5, .int .i64 1000000), (6, .bool true), (7, .int .i64 ((i : Nat) : Int)), (18, .bool false), (25, .bool false)] 53 0).toArray, []⟩ ∧ (am0 = 5 - i) ∧ (1 ≤ i ∧ i ≤ 5) ∧ (∀ j : Nat, j < i → ¬ (goodK 1000000 j ∧ textA 1000000 j = s)) ∧ (wl0.heap[b2]? = some (.cells #[.int .i64 0, .int .i64 0] 26 (0, 0))) ∧ (Below w.heap.size w wl0)) (5 - 1) ?_ ?_
        · exact ⟨1, (fun iU9 => lk [(0, .string s), (2, .pointer (some ⟨b2, 0, none⟩)), (3, .bool false), (4, .slice (some ⟨g20, 0, none⟩) n13 c14), (5, .int .i64 1000000), (6, .bool true), (7, .int .i64 1), (18, .bool false), (25, .bool false)] iU9 (U56 iU9)), (by kernel_rfl), rfl, (by omega), (fun j hj h9 => by have h8 := h9.1.2; omega), x6, c54⟩
        rintro am0 aa0 wl0 K12 h12 ⟨i, U0, rfl, rfl, hi, hun, x6, c57⟩
        refine wp_seq_k (fun K13 h13 => ?_)
        refine wp_seq_k (fun K14 h14 => ?_)
        refine W.region_quiet [(0, false), (1, false), (2, false), (3, false), (4, false)] (by kernel_rfl) ?_
        refine W.mv (v := .int .i64 ((i : Nat) : Int)) (h := ?_)
        by_cases q58 : (((i : Nat) : Int) : Int) ≤ (4 : Int)
        · refine W.q (v := .bool true) (hr := (r_leq (m := ((i : Nat) : Int)) (n := 4) rfl (by kernel_rfl) (by kernel_rfl) (decide_eq_true q58))) (h := ?_)
          refine W.mv (v := .bool true) (h := ?_)
          refine W.mv (v := .bool true) (h := ?_)
          refine W.q (v := .bool true) (hr := (r_pick (b := true) rfl (by kernel_rfl) (by kernel_rfl))) (h := ?_)
          refine W.endF 53 [(0, .string s), (2, .pointer (some ⟨b2, 0, none⟩)), (3, .bool false), (4, .slice (some ⟨g20, 0, none⟩) n13 c14), (5, .int .i64 1000000), (6, .bool true), (7, .int .i64 ((i : Nat) : Int)), (18, .bool false), (25, .bool false), (37, .bool true)] (fun U59 => ?_)
          refine h14 _ _ ?_
          refine wp_cond_true (by kernel_rfl) ?_
          refine wp_skip ?_
          refine h13 _ _ ?_
          refine wp_seq_k (fun K15 h15 => ?_)
          refine wp_block ?_
          refine wp_seq_k (fun K16 h16 => ?_)
          refine W.region_plain (row := none) [(0, false), (1, false), (2, false), (3, true), (4, true)] (by kernel_rfl) ?_
          have s60 := SG.self wl0 none
          refine W.mv (v := .int .i64 1000000) (h := ?_)
          refine W.mv (v := .int .i64 ((i : Nat) : Int)) (h := ?_)
          refine W.q (v := .agg #[.int .i64 1000000, .int .i64 ((i : Nat) : Int)]) (hr := (r_build rfl (vs := [(0, .int .i64 1000000), (1, .int .i64 ((i : Nat) : Int))]) (by kernel_rfl) (by kernel_rfl))) (h := ?_)
          refine W.sn (fun b => .pointer (some ⟨b, 0, none⟩)) #[.int .i64 0, .int .i64 0] 26 s60 rfl (by kernel_rfl) rfl (fun _ => by kernel_rfl) (fun b61 w62 hb63 k64 x65 s66 => ?_)
          have lo67 : w.heap.size ≤ b61 := by have := ((SG.belowR c57 s60 (fun kq e => by cases e))).size; omega
          have ne68 : b2 ≠ b61 := by have := blk_lt x6; have := (s60).size; omega
          refine W.ss (v := .agg #[.int .i64 1000000, .int .i64 ((i : Nat) : Int)]) (j := 0) (news := [.int .i64 1000000, .int .i64 ((i : Nat) : Int)]) (cs' := #[.int .i64 1000000, .int .i64 ((i : Nat) : Int)]) s66 rfl (by kernel_rfl) rfl rfl (by kernel_rfl) (by kernel_rfl) x65 (by kernel_rfl) (by kernel_rfl) (by simp) (by kernel_rfl) (by kernel_rfl) (.inr (by have := (s60).size; have := hb63; omega)) (fun w69 g70 x71 s72 => ?_)
          refine W.endF 53 [(0, .string s), (2, .pointer (some ⟨b2, 0, none⟩)), (3, .bool false), (4, .slice (some ⟨g20, 0, none⟩) n13 c14), (5, .int .i64 1000000), (6, .bool true), (7, .int .i64 ((i : Nat) : Int)), (8, .pointer (some ⟨b61, 0, none⟩)), (18, .bool false), (25, .bool false), (37, .bool true)] (fun U73 => ?_)
          have x6 := SG.blk s72 x6 (by simp)
          have c74 := (SG.belowR c57 s72 (fun kq e => by cases e))
          refine h16 _ _ ?_
          refine wp_seq_k (fun K17 h17 => ?_)
          refine W.region_plain (row := none) [(0, false), (1, true), (2, false), (3, false), (4, true), (5, false), (6, false), (7, false)] (by kernel_rfl) ?_
          have s75 := SG.self w69 none
          refine W.q (v := .agg #[.int .i64 1000000, .int .i64 ((i : Nat) : Int)]) (hr := (r_load2 rfl (by kernel_rfl) (by kernel_rfl) (by kernel_rfl) (sgS (blk_cell (j := 0) x71 (by kernel_rfl)) (by simp)) (sgS (blk_cell (j := 1) x71 (by kernel_rfl)) (by simp)))) (h := ?_)
          refine W.sc (vs := [.agg #[.int .i64 1000000, .int .i64 ((i : Nat) : Int)]]) rfl rfl (by kernel_rfl) (by kernel_rfl) (by kernel_rfl) rfl (l3Good_any 1000000 ((i : Nat) : Int) _) ?_
          rintro e w77 ⟨rfl, b76⟩
          have s78 := SG.of_below s75 b76
          refine ⟨_, rfl, s78, ?_⟩
          rcases Bool.eq_false_or_eq_true (goodAmt 1000000 ((i : Nat) : Int)) with q79 | q79
          · rw [q79]
            have hg9 := good_amt q79
            have hgv := hg9.1
            have hgu := hg9.2
            refine W.mv (v := .bool true) (h := ?_)
            refine W.q (v := .agg #[.int .i64 1000000, .int .i64 ((i : Nat) : Int)]) (hr := (r_load2 rfl (by kernel_rfl) (by kernel_rfl) (by kernel_rfl) (sgS (blk_cell (j := 0) x71 (by kernel_rfl)) (by simp)) (sgS (blk_cell (j := 1) x71 (by kernel_rfl)) (by simp)))) (h := ?_)
            refine W.sc (vs := [.agg #[.int .i64 1000000, .int .i64 ((i : Nat) : Int)]]) rfl rfl (by kernel_rfl) (by kernel_rfl) (by kernel_rfl) rfl (l3Text_any 1000000 ((i : Nat) : Int) _ (by omega) (by omega)) ?_
            rintro e w81 ⟨rfl, b80⟩
            have s82 := SG.of_below s78 b80
            refine ⟨_, rfl, s82, ?_⟩
            refine W.mv (v := .string s) (h := ?_)
            by_cases q83 : (textA 1000000 ((i : Nat) : Int).toNat) = s
            · refine W.q (v := .bool true) (hr := (r_eqlS (s := (textA 1000000 ((i : Nat) : Int).toNat)) (r := s) rfl (by kernel_rfl) (by kernel_rfl) (decide_eq_true q83))) (h := ?_)
              refine W.q (v := .bool true) (hr := (r_pick (b := true) rfl (by kernel_rfl) (by kernel_rfl))) (h := ?_)
              refine W.endF 53 [(0, .string s), (2, .pointer (some ⟨b2, 0, none⟩)), (3, .bool false), (4, .slice (some ⟨g20, 0, none⟩) n13 c14), (5, .int .i64 1000000), (6, .bool true), (7, .int .i64 ((i : Nat) : Int)), (8, .pointer (some ⟨b61, 0, none⟩)), (18, .bool false), (25, .bool false), (37, .bool true), (50, .bool true)] (fun U84 => ?_)
              have x6 := SG.blk s82 x6 (by simp)
              have x71 := SG.blk s82 x71 (by simp)
              have c85 := (SG.belowR c74 s82 (fun kq e => by cases e))
              refine h17 _ _ ?_
              refine wp_cond_true (by kernel_rfl) ?_
              refine wp_seq_k (fun K18 h18 => ?_)
              refine W.region_plain (row := (some b2)) [(0, false), (1, true), (2, false)] (by kernel_rfl) ?_
              have s86 := SG.self w81 (some b2)
              refine W.q (v := .agg #[.int .i64 1000000, .int .i64 ((i : Nat) : Int)]) (hr := (r_load2 rfl (by kernel_rfl) (by kernel_rfl) (by kernel_rfl) (sgS (blk_cell (j := 0) x71 (by kernel_rfl)) (by have := ne68; simp; omega)) (sgS (blk_cell (j := 1) x71 (by kernel_rfl)) (by have := ne68; simp; omega)))) (h := ?_)
              refine W.ss (v := .agg #[.int .i64 1000000, .int .i64 ((i : Nat) : Int)]) (j := 0) (news := [.int .i64 1000000, .int .i64 ((i : Nat) : Int)]) (cs' := #[.int .i64 1000000, .int .i64 ((i : Nat) : Int)]) s86 rfl (by kernel_rfl) rfl rfl (by kernel_rfl) (by kernel_rfl) x6 (by kernel_rfl) (by kernel_rfl) (by simp) (by kernel_rfl) (by kernel_rfl) (.inl rfl) (fun w87 g88 x89 s90 => ?_)
              refine W.as (v := .bool true) (h := ?_)
              refine W.endF 53 [(0, .string s), (2, .pointer (some ⟨b2, 0, none⟩)), (3, .bool true), (4, .slice (some ⟨g20, 0, none⟩) n13 c14), (5, .int .i64 1000000), (6, .bool true), (7, .int .i64 ((i : Nat) : Int)), (8, .pointer (some ⟨b61, 0, none⟩)), (18, .bool false), (25, .bool false), (37, .bool true), (50, .bool true)] (fun U91 => ?_)
              have x71 := SG.blk s90 x71 (by have := ne68; simp; omega)
              have c92 := (SG.belowR c85 s90 (fun kq e => by cases e; exact lo8))
              refine h18 _ _ ?_
              refine wp_ret ?_
              try simp only [Exit.then, Exit.inBlock]
              refine retCT (x := .bool true) rfl (by kernel_rfl) (by kernel_rfl) (by kernel_rfl) (by kernel_rfl) x89 ?_
              have hgk := goodK_of q79
              obtain ⟨e1, e2, e3⟩ := par_yes (s := s) hgk (by have h9 := q83; rw [Int.toNat_natCast] at h9; exact h9)
              exact ⟨by rw [e1, e2, e3], c92⟩
            · refine W.q (v := .bool false) (hr := (r_eqlS (s := (textA 1000000 ((i : Nat) : Int).toNat)) (r := s) rfl (by kernel_rfl) (by kernel_rfl) (decide_eq_false q83))) (h := ?_)
              refine W.q (v := .bool false) (hr := (r_pick (b := true) rfl (by kernel_rfl) (by kernel_rfl))) (h := ?_)
              refine W.endF 53 [(0, .string s), (2, .pointer (some ⟨b2, 0, none⟩)), (3, .bool false), (4, .slice (some ⟨g20, 0, none⟩) n13 c14), (5, .int .i64 1000000), (6, .bool true), (7, .int .i64 ((i : Nat) : Int)), (8, .pointer (some ⟨b61, 0, none⟩)), (18, .bool false), (25, .bool false), (37, .bool true), (50, .bool false)] (fun U93 => ?_)
              have x6 := SG.blk s82 x6 (by simp)
              have x71 := SG.blk s82 x71 (by simp)
              have c94 := (SG.belowR c74 s82 (fun kq e => by cases e))
              refine h17 _ _ ?_
              refine wp_cond_false (by kernel_rfl) ?_
              refine wp_skip ?_
              refine h15 _ _ ?_
              refine W.region_quiet [(0, false), (1, false), (2, false)] (by kernel_rfl) ?_
              refine W.mv (v := .int .i64 ((i : Nat) : Int)) (h := ?_)
              refine W.q (v := .int .i64 ((i + 1 : Nat) : Int)) (hr := (r_add (m := ((i : Nat) : Int)) (n := 1) (z := ((i + 1 : Nat) : Int)) rfl (by kernel_rfl) (by kernel_rfl) (by omega) (by omega))) (h := ?_)
              refine W.as (v := .int .i64 ((i + 1 : Nat) : Int)) (h := ?_)
              refine W.endF 53 [(0, .string s), (2, .pointer (some ⟨b2, 0, none⟩)), (3, .bool false), (4, .slice (some ⟨g20, 0, none⟩) n13 c14), (5, .int .i64 1000000), (6, .bool true), (7, .int .i64 ((i + 1 : Nat) : Int)), (8, .pointer (some ⟨b61, 0, none⟩)), (18, .bool false), (25, .bool false), (37, .bool true), (50, .bool false)] (fun U95 => ?_)
              exact h12 _ _ _ (by omega : (5 - (i + 1)) < _) ⟨i + 1, (fun iU9 => lk [(0, .string s), (2, .pointer (some ⟨b2, 0, none⟩)), (3, .bool false), (4, .slice (some ⟨g20, 0, none⟩) n13 c14), (5, .int .i64 1000000), (6, .bool true), (7, .int .i64 ((i + 1 : Nat) : Int)), (8, .pointer (some ⟨b61, 0, none⟩)), (18, .bool false), (25, .bool false), (37, .bool true), (50, .bool false)] iU9 (U95 iU9)), (by kernel_rfl), rfl, (by omega), (unit_no hun (fun h9 => q83 (by rw [Int.toNat_natCast]; exact h9.2))), x6, c94⟩
          · rw [q79]
            refine W.mv (v := .bool false) (h := ?_)
            refine W.sp s78 (h := ?_)
            refine W.sp s78 (h := ?_)
            refine W.sp s78 (h := ?_)
            refine W.sp s78 (h := ?_)
            refine W.q (v := .bool false) (hr := (r_pick (b := false) rfl (by kernel_rfl) (by kernel_rfl))) (h := ?_)
            refine W.endF 53 [(0, .string s), (2, .pointer (some ⟨b2, 0, none⟩)), (3, .bool false), (4, .slice (some ⟨g20, 0, none⟩) n13 c14), (5, .int .i64 1000000), (6, .bool true), (7, .int .i64 ((i : Nat) : Int)), (8, .pointer (some ⟨b61, 0, none⟩)), (18, .bool false), (25, .bool false), (37, .bool true), (50, .bool false)] (fun U96 => ?_)
            have x6 := SG.blk s78 x6 (by simp)
            have x71 := SG.blk s78 x71 (by simp)
            have c97 := (SG.belowR c74 s78 (fun kq e => by cases e))
            refine h17 _ _ ?_
            refine wp_cond_false (by kernel_rfl) ?_
            refine wp_skip ?_
            refine h15 _ _ ?_
            refine W.region_quiet [(0, false), (1, false), (2, false)] (by kernel_rfl) ?_
            refine W.mv (v := .int .i64 ((i : Nat) : Int)) (h := ?_)
            refine W.q (v := .int .i64 ((i + 1 : Nat) : Int)) (hr := (r_add (m := ((i : Nat) : Int)) (n := 1) (z := ((i + 1 : Nat) : Int)) rfl (by kernel_rfl) (by kernel_rfl) (by omega) (by omega))) (h := ?_)
            refine W.as (v := .int .i64 ((i + 1 : Nat) : Int)) (h := ?_)
            refine W.endF 53 [(0, .string s), (2, .pointer (some ⟨b2, 0, none⟩)), (3, .bool false), (4, .slice (some ⟨g20, 0, none⟩) n13 c14), (5, .int .i64 1000000), (6, .bool true), (7, .int .i64 ((i + 1 : Nat) : Int)), (8, .pointer (some ⟨b61, 0, none⟩)), (18, .bool false), (25, .bool false), (37, .bool true), (50, .bool false)] (fun U98 => ?_)
            exact h12 _ _ _ (by omega : (5 - (i + 1)) < _) ⟨i + 1, (fun iU9 => lk [(0, .string s), (2, .pointer (some ⟨b2, 0, none⟩)), (3, .bool false), (4, .slice (some ⟨g20, 0, none⟩) n13 c14), (5, .int .i64 1000000), (6, .bool true), (7, .int .i64 ((i + 1 : Nat) : Int)), (8, .pointer (some ⟨b61, 0, none⟩)), (18, .bool false), (25, .bool false), (37, .bool true), (50, .bool false)] iU9 (U98 iU9)), (by kernel_rfl), rfl, (by omega), (unit_no hun (fun h9 => not_goodK q79 h9.1)), x6, c97⟩
        · refine W.q (v := .bool false) (hr := (r_leq (m := ((i : Nat) : Int)) (n := 4) rfl (by kernel_rfl) (by kernel_rfl) (decide_eq_false q58))) (h := ?_)
          refine W.mv (v := .bool false) (h := ?_)
          refine W.sp rfl (h := ?_)
          refine W.q (v := .bool false) (hr := (r_pick (b := false) rfl (by kernel_rfl) (by kernel_rfl))) (h := ?_)
          refine W.endF 53 [(0, .string s), (2, .pointer (some ⟨b2, 0, none⟩)), (3, .bool false), (4, .slice (some ⟨g20, 0, none⟩) n13 c14), (5, .int .i64 1000000), (6, .bool true), (7, .int .i64 ((i : Nat) : Int)), (18, .bool false), (25, .bool false), (37, .bool false)] (fun U99 => ?_)
          refine h14 _ _ ?_
          refine wp_cond_false (by kernel_rfl) ?_
          refine wp_exit ?_
          refine h10 _ _ ?_
          refine wp_seq_k (fun K19 h19 => ?_)
          refine W.region_plain (row := (some b2)) [(0, false), (1, true), (2, false)] (by kernel_rfl) ?_
          have s100 := SG.self wl0 (some b2)
          refine W.q (v := .agg #[.int .i64 0, .int .i64 0]) (hr := (r_build rfl (vs := []) (by kernel_rfl) (by kernel_rfl))) (h := ?_)
          refine W.ss (v := .agg #[.int .i64 0, .int .i64 0]) (j := 0) (news := [.int .i64 0, .int .i64 0]) (cs' := #[.int .i64 0, .int .i64 0]) s100 rfl (by kernel_rfl) rfl rfl (by kernel_rfl) (by kernel_rfl) x6 (by kernel_rfl) (by kernel_rfl) (by simp) (by kernel_rfl) (by kernel_rfl) (.inl rfl) (fun w101 g102 x103 s104 => ?_)
          refine W.as (v := .bool false) (h := ?_)
          refine W.endF 53 [(0, .string s), (2, .pointer (some ⟨b2, 0, none⟩)), (3, .bool false), (4, .slice (some ⟨g20, 0, none⟩) n13 c14), (5, .int .i64 1000000), (6, .bool true), (7, .int .i64 ((i : Nat) : Int)), (18, .bool false), (25, .bool false), (37, .bool false)] (fun U105 => ?_)
          have c106 := (SG.belowR c57 s104 (fun kq e => by cases e; exact lo8))
          refine h19 _ _ ?_
          refine wp_ret ?_
          try simp only [Exit.then]
          refine retCT (x := .bool false) rfl (by kernel_rfl) (by kernel_rfl) (by kernel_rfl) (by kernel_rfl) x103 ?_
          obtain ⟨e1, e2, e3⟩ := par_no (s := s) (unit_end hval hun (by omega))
          exact ⟨by rw [e1, e2, e3], c106⟩
      · refine W.q (v := .bool false) (hr := (r_eqlS (s := (headB s 32)) (r := (⟨#[49, 48, 48, 48, 48, 48, 48]⟩ : ByteArray)) rfl (by kernel_rfl) (by kernel_rfl) (decide_eq_false q52))) (h := ?_)
        refine W.as (v := .int .i64 1000000) (h := ?_)
        refine W.as (v := .bool false) (h := ?_)
        refine W.endF 53 [(0, .string s), (2, .pointer (some ⟨b2, 0, none⟩)), (3, .bool false), (4, .slice (some ⟨g20, 0, none⟩) n13 c14), (5, .int .i64 1000000), (6, .bool false), (18, .bool false)] (fun U107 => ?_)
        have x6 := SG.blk s50 x6 (by simp)
        have c108 := (SG.belowR c26 s50 (fun kq e => by cases e))
        refine h7 _ _ ?_
        refine wp_seq_k (fun K20 h20 => ?_)
        refine wp_seq_k (fun K21 h21 => ?_)
        refine W.region_quiet [(0, false), (1, false)] (by kernel_rfl) ?_
        refine W.mv (v := .bool false) (h := ?_)
        refine W.q (v := .bool true) (hr := (r_not (b := false) rfl (by kernel_rfl) rfl)) (h := ?_)
        refine W.endF 53 [(0, .string s), (2, .pointer (some ⟨b2, 0, none⟩)), (3, .bool false), (4, .slice (some ⟨g20, 0, none⟩) n13 c14), (5, .int .i64 1000000), (6, .bool false), (18, .bool false), (25, .bool true)] (fun U109 => ?_)
        refine h21 _ _ ?_
        refine wp_cond_true (by kernel_rfl) ?_
        refine W.region_plain (row := none) [(0, false), (1, false), (2, false), (3, true), (4, false), (5, false), (6, false), (7, false), (8, false)] (by kernel_rfl) ?_
        have s110 := SG.self w48 none
        refine W.mv (v := .slice (some ⟨g20, 0, none⟩) n13 c14) (h := ?_)
        refine W.q (v := .pointer (some ⟨g20, 0, none⟩)) (hr := (r_idx0 (n := n13) (c := c14) (k := 0) rfl (by kernel_rfl) (by kernel_rfl) (by kernel_rfl) (by omega))) (h := ?_)
        refine W.ld (v := .string (headB s 32)) (hc := (sgS (own_atS ho51 (splitL_head s (c := 32) (by omega))) (by simp))) (h := ?_)
        have hhd := head_le s (c := 32) (by omega)
        have hbd := num_bd (headB s 32)
        refine W.sc (vs := [.string (headB s 32)]) rfl rfl (by kernel_rfl) (by kernel_rfl) (by kernel_rfl) rfl (l1Read_any (headB s 32) _ (by omega)) ?_
        rintro e w112 ⟨rfl, b111⟩
        have s113 := SG.of_below s110 b111
        refine ⟨_, rfl, s113, ?_⟩
        have ho114 := own_kept ho51 b111
        rcases Bool.eq_false_or_eq_true (ParseInt_v1 (headB s 32)) with q115 | q115
        · rw [q115]
          refine W.mv (v := .tuple #[.int .i64 (ParseInt_v0 (headB s 32)), .bool true]) (h := ?_)
          refine W.q (v := .int .i64 (ParseInt_v0 (headB s 32))) (hr := (r_extract (vs := #[.int .i64 (ParseInt_v0 (headB s 32)), .bool true]) rfl (by kernel_rfl) (by kernel_rfl))) (h := ?_)
          refine W.q (v := .bool true) (hr := (r_extract (vs := #[.int .i64 (ParseInt_v0 (headB s 32)), .bool true]) rfl (by kernel_rfl) (by kernel_rfl))) (h := ?_)
          refine W.as (v := .int .i64 (ParseInt_v0 (headB s 32))) (h := ?_)
          refine W.as (v := .bool true) (h := ?_)
          refine W.endF 53 [(0, .string s), (2, .pointer (some ⟨b2, 0, none⟩)), (3, .bool false), (4, .slice (some ⟨g20, 0, none⟩) n13 c14), (5, .int .i64 (ParseInt_v0 (headB s 32))), (6, .bool true), (18, .bool false), (25, .bool true)] (fun U116 => ?_)
          have x6 := SG.blk s113 x6 (by simp)
          have c117 := (SG.belowR c108 s113 (fun kq e => by cases e))
          refine h20 _ _ ?_
          refine wp_seq_k (fun K22 h22 => ?_)
          refine wp_seq_k (fun K23 h23 => ?_)
          refine W.region_quiet [(0, false)] (by kernel_rfl) ?_
          refine W.as (v := .int .i64 1) (h := ?_)
          refine W.endF 53 [(0, .string s), (2, .pointer (some ⟨b2, 0, none⟩)), (3, .bool false), (4, .slice (some ⟨g20, 0, none⟩) n13 c14), (5, .int .i64 (ParseInt_v0 (headB s 32))), (6, .bool true), (7, .int .i64 1), (18, .bool false), (25, .bool true)] (fun U118 => ?_)
          refine h23 _ _ ?_
          refine wp_block ?_
          have hvr := val_read q52
          have hval : ∀ v k, goodK v k → textA v k = s → (ParseInt_v0 (headB s 32)) = v := fun v k hg e => (hvr v k hg e).2
          refine loopK (fun am0 aa0 wl0 => ∃ (i : Nat) (U0 : Nat → Value), aa0 = ⟨(fr U0 [(0, .string s), (2, .pointer (some ⟨b2, 0, none⟩)), (3, .bool false), (4, .slice (some ⟨g20, 0, none⟩) n13 c14), (5, .int .i64 (ParseInt_v0 (headB s 32))), (6, .bool true), (7, .int .i64 ((i : Nat) : Int)), (18, .bool false), (25, .bool true)] 53 0).toArray, []⟩ ∧ (am0 = 5 - i) ∧ (1 ≤ i ∧ i ≤ 5) ∧ (∀ j : Nat, j < i → ¬ (goodK (ParseInt_v0 (headB s 32)) j ∧ textA (ParseInt_v0 (headB s 32)) j = s)) ∧ (wl0.heap[b2]? = some (.cells #[.int .i64 0, .int .i64 0] 26 (0, 0))) ∧ (Below w.heap.size w wl0)) (5 - 1) ?_ ?_
          · exact ⟨1, (fun iU9 => lk [(0, .string s), (2, .pointer (some ⟨b2, 0, none⟩)), (3, .bool false), (4, .slice (some ⟨g20, 0, none⟩) n13 c14), (5, .int .i64 (ParseInt_v0 (headB s 32))), (6, .bool true), (7, .int .i64 1), (18, .bool false), (25, .bool true)] iU9 (U118 iU9)), (by kernel_rfl), rfl, (by omega), (fun j hj h9 => by have h8 := h9.1.2; omega), x6, c117⟩
          rintro am0 aa0 wl0 K24 h24 ⟨i, U0, rfl, rfl, hi, hun, x6, c119⟩
          refine wp_seq_k (fun K25 h25 => ?_)
          refine wp_seq_k (fun K26 h26 => ?_)
          refine W.region_quiet [(0, false), (1, false), (2, false), (3, false), (4, false)] (by kernel_rfl) ?_
          refine W.mv (v := .int .i64 ((i : Nat) : Int)) (h := ?_)
          by_cases q120 : (((i : Nat) : Int) : Int) ≤ (4 : Int)
          · refine W.q (v := .bool true) (hr := (r_leq (m := ((i : Nat) : Int)) (n := 4) rfl (by kernel_rfl) (by kernel_rfl) (decide_eq_true q120))) (h := ?_)
            refine W.mv (v := .bool true) (h := ?_)
            refine W.mv (v := .bool true) (h := ?_)
            refine W.q (v := .bool true) (hr := (r_pick (b := true) rfl (by kernel_rfl) (by kernel_rfl))) (h := ?_)
            refine W.endF 53 [(0, .string s), (2, .pointer (some ⟨b2, 0, none⟩)), (3, .bool false), (4, .slice (some ⟨g20, 0, none⟩) n13 c14), (5, .int .i64 (ParseInt_v0 (headB s 32))), (6, .bool true), (7, .int .i64 ((i : Nat) : Int)), (18, .bool false), (25, .bool true), (37, .bool true)] (fun U121 => ?_)
            refine h26 _ _ ?_
            refine wp_cond_true (by kernel_rfl) ?_
            refine wp_skip ?_
            refine h25 _ _ ?_
            refine wp_seq_k (fun K27 h27 => ?_)
            refine wp_block ?_
            refine wp_seq_k (fun K28 h28 => ?_)
            refine W.region_plain (row := none) [(0, false), (1, false), (2, false), (3, true), (4, true)] (by kernel_rfl) ?_
            have s122 := SG.self wl0 none
            refine W.mv (v := .int .i64 (ParseInt_v0 (headB s 32))) (h := ?_)
            refine W.mv (v := .int .i64 ((i : Nat) : Int)) (h := ?_)
            refine W.q (v := .agg #[.int .i64 (ParseInt_v0 (headB s 32)), .int .i64 ((i : Nat) : Int)]) (hr := (r_build rfl (vs := [(0, .int .i64 (ParseInt_v0 (headB s 32))), (1, .int .i64 ((i : Nat) : Int))]) (by kernel_rfl) (by kernel_rfl))) (h := ?_)
            refine W.sn (fun b => .pointer (some ⟨b, 0, none⟩)) #[.int .i64 0, .int .i64 0] 26 s122 rfl (by kernel_rfl) rfl (fun _ => by kernel_rfl) (fun b123 w124 hb125 k126 x127 s128 => ?_)
            have lo129 : w.heap.size ≤ b123 := by have := ((SG.belowR c119 s122 (fun kq e => by cases e))).size; omega
            have ne130 : b2 ≠ b123 := by have := blk_lt x6; have := (s122).size; omega
            refine W.ss (v := .agg #[.int .i64 (ParseInt_v0 (headB s 32)), .int .i64 ((i : Nat) : Int)]) (j := 0) (news := [.int .i64 (ParseInt_v0 (headB s 32)), .int .i64 ((i : Nat) : Int)]) (cs' := #[.int .i64 (ParseInt_v0 (headB s 32)), .int .i64 ((i : Nat) : Int)]) s128 rfl (by kernel_rfl) rfl rfl (by kernel_rfl) (by kernel_rfl) x127 (by kernel_rfl) (by kernel_rfl) (by simp) (by kernel_rfl) (by kernel_rfl) (.inr (by have := (s122).size; have := hb125; omega)) (fun w131 g132 x133 s134 => ?_)
            refine W.endF 53 [(0, .string s), (2, .pointer (some ⟨b2, 0, none⟩)), (3, .bool false), (4, .slice (some ⟨g20, 0, none⟩) n13 c14), (5, .int .i64 (ParseInt_v0 (headB s 32))), (6, .bool true), (7, .int .i64 ((i : Nat) : Int)), (8, .pointer (some ⟨b123, 0, none⟩)), (18, .bool false), (25, .bool true), (37, .bool true)] (fun U135 => ?_)
            have x6 := SG.blk s134 x6 (by simp)
            have c136 := (SG.belowR c119 s134 (fun kq e => by cases e))
            refine h28 _ _ ?_
            refine wp_seq_k (fun K29 h29 => ?_)
            refine W.region_plain (row := none) [(0, false), (1, true), (2, false), (3, false), (4, true), (5, false), (6, false), (7, false)] (by kernel_rfl) ?_
            have s137 := SG.self w131 none
            refine W.q (v := .agg #[.int .i64 (ParseInt_v0 (headB s 32)), .int .i64 ((i : Nat) : Int)]) (hr := (r_load2 rfl (by kernel_rfl) (by kernel_rfl) (by kernel_rfl) (sgS (blk_cell (j := 0) x133 (by kernel_rfl)) (by simp)) (sgS (blk_cell (j := 1) x133 (by kernel_rfl)) (by simp)))) (h := ?_)
            refine W.sc (vs := [.agg #[.int .i64 (ParseInt_v0 (headB s 32)), .int .i64 ((i : Nat) : Int)]]) rfl rfl (by kernel_rfl) (by kernel_rfl) (by kernel_rfl) rfl (l3Good_any (ParseInt_v0 (headB s 32)) ((i : Nat) : Int) _) ?_
            rintro e w139 ⟨rfl, b138⟩
            have s140 := SG.of_below s137 b138
            refine ⟨_, rfl, s140, ?_⟩
            rcases Bool.eq_false_or_eq_true (goodAmt (ParseInt_v0 (headB s 32)) ((i : Nat) : Int)) with q141 | q141
            · rw [q141]
              have hg9 := good_amt q141
              have hgv := hg9.1
              have hgu := hg9.2
              refine W.mv (v := .bool true) (h := ?_)
              refine W.q (v := .agg #[.int .i64 (ParseInt_v0 (headB s 32)), .int .i64 ((i : Nat) : Int)]) (hr := (r_load2 rfl (by kernel_rfl) (by kernel_rfl) (by kernel_rfl) (sgS (blk_cell (j := 0) x133 (by kernel_rfl)) (by simp)) (sgS (blk_cell (j := 1) x133 (by kernel_rfl)) (by simp)))) (h := ?_)
              refine W.sc (vs := [.agg #[.int .i64 (ParseInt_v0 (headB s 32)), .int .i64 ((i : Nat) : Int)]]) rfl rfl (by kernel_rfl) (by kernel_rfl) (by kernel_rfl) rfl (l3Text_any (ParseInt_v0 (headB s 32)) ((i : Nat) : Int) _ (by omega) (by omega)) ?_
              rintro e w143 ⟨rfl, b142⟩
              have s144 := SG.of_below s140 b142
              refine ⟨_, rfl, s144, ?_⟩
              refine W.mv (v := .string s) (h := ?_)
              by_cases q145 : (textA (ParseInt_v0 (headB s 32)) ((i : Nat) : Int).toNat) = s
              · refine W.q (v := .bool true) (hr := (r_eqlS (s := (textA (ParseInt_v0 (headB s 32)) ((i : Nat) : Int).toNat)) (r := s) rfl (by kernel_rfl) (by kernel_rfl) (decide_eq_true q145))) (h := ?_)
                refine W.q (v := .bool true) (hr := (r_pick (b := true) rfl (by kernel_rfl) (by kernel_rfl))) (h := ?_)
                refine W.endF 53 [(0, .string s), (2, .pointer (some ⟨b2, 0, none⟩)), (3, .bool false), (4, .slice (some ⟨g20, 0, none⟩) n13 c14), (5, .int .i64 (ParseInt_v0 (headB s 32))), (6, .bool true), (7, .int .i64 ((i : Nat) : Int)), (8, .pointer (some ⟨b123, 0, none⟩)), (18, .bool false), (25, .bool true), (37, .bool true), (50, .bool true)] (fun U146 => ?_)
                have x6 := SG.blk s144 x6 (by simp)
                have x133 := SG.blk s144 x133 (by simp)
                have c147 := (SG.belowR c136 s144 (fun kq e => by cases e))
                refine h29 _ _ ?_
                refine wp_cond_true (by kernel_rfl) ?_
                refine wp_seq_k (fun K30 h30 => ?_)
                refine W.region_plain (row := (some b2)) [(0, false), (1, true), (2, false)] (by kernel_rfl) ?_
                have s148 := SG.self w143 (some b2)
                refine W.q (v := .agg #[.int .i64 (ParseInt_v0 (headB s 32)), .int .i64 ((i : Nat) : Int)]) (hr := (r_load2 rfl (by kernel_rfl) (by kernel_rfl) (by kernel_rfl) (sgS (blk_cell (j := 0) x133 (by kernel_rfl)) (by have := ne130; simp; omega)) (sgS (blk_cell (j := 1) x133 (by kernel_rfl)) (by have := ne130; simp; omega)))) (h := ?_)
                refine W.ss (v := .agg #[.int .i64 (ParseInt_v0 (headB s 32)), .int .i64 ((i : Nat) : Int)]) (j := 0) (news := [.int .i64 (ParseInt_v0 (headB s 32)), .int .i64 ((i : Nat) : Int)]) (cs' := #[.int .i64 (ParseInt_v0 (headB s 32)), .int .i64 ((i : Nat) : Int)]) s148 rfl (by kernel_rfl) rfl rfl (by kernel_rfl) (by kernel_rfl) x6 (by kernel_rfl) (by kernel_rfl) (by simp) (by kernel_rfl) (by kernel_rfl) (.inl rfl) (fun w149 g150 x151 s152 => ?_)
                refine W.as (v := .bool true) (h := ?_)
                refine W.endF 53 [(0, .string s), (2, .pointer (some ⟨b2, 0, none⟩)), (3, .bool true), (4, .slice (some ⟨g20, 0, none⟩) n13 c14), (5, .int .i64 (ParseInt_v0 (headB s 32))), (6, .bool true), (7, .int .i64 ((i : Nat) : Int)), (8, .pointer (some ⟨b123, 0, none⟩)), (18, .bool false), (25, .bool true), (37, .bool true), (50, .bool true)] (fun U153 => ?_)
                have x133 := SG.blk s152 x133 (by have := ne130; simp; omega)
                have c154 := (SG.belowR c147 s152 (fun kq e => by cases e; exact lo8))
                refine h30 _ _ ?_
                refine wp_ret ?_
                try simp only [Exit.then, Exit.inBlock]
                refine retCT (x := .bool true) rfl (by kernel_rfl) (by kernel_rfl) (by kernel_rfl) (by kernel_rfl) x151 ?_
                have hgk := goodK_of q141
                obtain ⟨e1, e2, e3⟩ := par_yes (s := s) hgk (by have h9 := q145; rw [Int.toNat_natCast] at h9; exact h9)
                exact ⟨by rw [e1, e2, e3], c154⟩
              · refine W.q (v := .bool false) (hr := (r_eqlS (s := (textA (ParseInt_v0 (headB s 32)) ((i : Nat) : Int).toNat)) (r := s) rfl (by kernel_rfl) (by kernel_rfl) (decide_eq_false q145))) (h := ?_)
                refine W.q (v := .bool false) (hr := (r_pick (b := true) rfl (by kernel_rfl) (by kernel_rfl))) (h := ?_)
                refine W.endF 53 [(0, .string s), (2, .pointer (some ⟨b2, 0, none⟩)), (3, .bool false), (4, .slice (some ⟨g20, 0, none⟩) n13 c14), (5, .int .i64 (ParseInt_v0 (headB s 32))), (6, .bool true), (7, .int .i64 ((i : Nat) : Int)), (8, .pointer (some ⟨b123, 0, none⟩)), (18, .bool false), (25, .bool true), (37, .bool true), (50, .bool false)] (fun U155 => ?_)
                have x6 := SG.blk s144 x6 (by simp)
                have x133 := SG.blk s144 x133 (by simp)
                have c156 := (SG.belowR c136 s144 (fun kq e => by cases e))
                refine h29 _ _ ?_
                refine wp_cond_false (by kernel_rfl) ?_
                refine wp_skip ?_
                refine h27 _ _ ?_
                refine W.region_quiet [(0, false), (1, false), (2, false)] (by kernel_rfl) ?_
                refine W.mv (v := .int .i64 ((i : Nat) : Int)) (h := ?_)
                refine W.q (v := .int .i64 ((i + 1 : Nat) : Int)) (hr := (r_add (m := ((i : Nat) : Int)) (n := 1) (z := ((i + 1 : Nat) : Int)) rfl (by kernel_rfl) (by kernel_rfl) (by omega) (by omega))) (h := ?_)
                refine W.as (v := .int .i64 ((i + 1 : Nat) : Int)) (h := ?_)
                refine W.endF 53 [(0, .string s), (2, .pointer (some ⟨b2, 0, none⟩)), (3, .bool false), (4, .slice (some ⟨g20, 0, none⟩) n13 c14), (5, .int .i64 (ParseInt_v0 (headB s 32))), (6, .bool true), (7, .int .i64 ((i + 1 : Nat) : Int)), (8, .pointer (some ⟨b123, 0, none⟩)), (18, .bool false), (25, .bool true), (37, .bool true), (50, .bool false)] (fun U157 => ?_)
                exact h24 _ _ _ (by omega : (5 - (i + 1)) < _) ⟨i + 1, (fun iU9 => lk [(0, .string s), (2, .pointer (some ⟨b2, 0, none⟩)), (3, .bool false), (4, .slice (some ⟨g20, 0, none⟩) n13 c14), (5, .int .i64 (ParseInt_v0 (headB s 32))), (6, .bool true), (7, .int .i64 ((i + 1 : Nat) : Int)), (8, .pointer (some ⟨b123, 0, none⟩)), (18, .bool false), (25, .bool true), (37, .bool true), (50, .bool false)] iU9 (U157 iU9)), (by kernel_rfl), rfl, (by omega), (unit_no hun (fun h9 => q145 (by rw [Int.toNat_natCast]; exact h9.2))), x6, c156⟩
            · rw [q141]
              refine W.mv (v := .bool false) (h := ?_)
              refine W.sp s140 (h := ?_)
              refine W.sp s140 (h := ?_)
              refine W.sp s140 (h := ?_)
              refine W.sp s140 (h := ?_)
              refine W.q (v := .bool false) (hr := (r_pick (b := false) rfl (by kernel_rfl) (by kernel_rfl))) (h := ?_)
              refine W.endF 53 [(0, .string s), (2, .pointer (some ⟨b2, 0, none⟩)), (3, .bool false), (4, .slice (some ⟨g20, 0, none⟩) n13 c14), (5, .int .i64 (ParseInt_v0 (headB s 32))), (6, .bool true), (7, .int .i64 ((i : Nat) : Int)), (8, .pointer (some ⟨b123, 0, none⟩)), (18, .bool false), (25, .bool true), (37, .bool true), (50, .bool false)] (fun U158 => ?_)
              have x6 := SG.blk s140 x6 (by simp)
              have x133 := SG.blk s140 x133 (by simp)
              have c159 := (SG.belowR c136 s140 (fun kq e => by cases e))
              refine h29 _ _ ?_
              refine wp_cond_false (by kernel_rfl) ?_
              refine wp_skip ?_
              refine h27 _ _ ?_
              refine W.region_quiet [(0, false), (1, false), (2, false)] (by kernel_rfl) ?_
              refine W.mv (v := .int .i64 ((i : Nat) : Int)) (h := ?_)
              refine W.q (v := .int .i64 ((i + 1 : Nat) : Int)) (hr := (r_add (m := ((i : Nat) : Int)) (n := 1) (z := ((i + 1 : Nat) : Int)) rfl (by kernel_rfl) (by kernel_rfl) (by omega) (by omega))) (h := ?_)
              refine W.as (v := .int .i64 ((i + 1 : Nat) : Int)) (h := ?_)
              refine W.endF 53 [(0, .string s), (2, .pointer (some ⟨b2, 0, none⟩)), (3, .bool false), (4, .slice (some ⟨g20, 0, none⟩) n13 c14), (5, .int .i64 (ParseInt_v0 (headB s 32))), (6, .bool true), (7, .int .i64 ((i + 1 : Nat) : Int)), (8, .pointer (some ⟨b123, 0, none⟩)), (18, .bool false), (25, .bool true), (37, .bool true), (50, .bool false)] (fun U160 => ?_)
              exact h24 _ _ _ (by omega : (5 - (i + 1)) < _) ⟨i + 1, (fun iU9 => lk [(0, .string s), (2, .pointer (some ⟨b2, 0, none⟩)), (3, .bool false), (4, .slice (some ⟨g20, 0, none⟩) n13 c14), (5, .int .i64 (ParseInt_v0 (headB s 32))), (6, .bool true), (7, .int .i64 ((i + 1 : Nat) : Int)), (8, .pointer (some ⟨b123, 0, none⟩)), (18, .bool false), (25, .bool true), (37, .bool true), (50, .bool false)] iU9 (U160 iU9)), (by kernel_rfl), rfl, (by omega), (unit_no hun (fun h9 => not_goodK q141 h9.1)), x6, c159⟩
          · refine W.q (v := .bool false) (hr := (r_leq (m := ((i : Nat) : Int)) (n := 4) rfl (by kernel_rfl) (by kernel_rfl) (decide_eq_false q120))) (h := ?_)
            refine W.mv (v := .bool false) (h := ?_)
            refine W.sp rfl (h := ?_)
            refine W.q (v := .bool false) (hr := (r_pick (b := false) rfl (by kernel_rfl) (by kernel_rfl))) (h := ?_)
            refine W.endF 53 [(0, .string s), (2, .pointer (some ⟨b2, 0, none⟩)), (3, .bool false), (4, .slice (some ⟨g20, 0, none⟩) n13 c14), (5, .int .i64 (ParseInt_v0 (headB s 32))), (6, .bool true), (7, .int .i64 ((i : Nat) : Int)), (18, .bool false), (25, .bool true), (37, .bool false)] (fun U161 => ?_)
            refine h26 _ _ ?_
            refine wp_cond_false (by kernel_rfl) ?_
            refine wp_exit ?_
            refine h22 _ _ ?_
            refine wp_seq_k (fun K31 h31 => ?_)
            refine W.region_plain (row := (some b2)) [(0, false), (1, true), (2, false)] (by kernel_rfl) ?_
            have s162 := SG.self wl0 (some b2)
            refine W.q (v := .agg #[.int .i64 0, .int .i64 0]) (hr := (r_build rfl (vs := []) (by kernel_rfl) (by kernel_rfl))) (h := ?_)
            refine W.ss (v := .agg #[.int .i64 0, .int .i64 0]) (j := 0) (news := [.int .i64 0, .int .i64 0]) (cs' := #[.int .i64 0, .int .i64 0]) s162 rfl (by kernel_rfl) rfl rfl (by kernel_rfl) (by kernel_rfl) x6 (by kernel_rfl) (by kernel_rfl) (by simp) (by kernel_rfl) (by kernel_rfl) (.inl rfl) (fun w163 g164 x165 s166 => ?_)
            refine W.as (v := .bool false) (h := ?_)
            refine W.endF 53 [(0, .string s), (2, .pointer (some ⟨b2, 0, none⟩)), (3, .bool false), (4, .slice (some ⟨g20, 0, none⟩) n13 c14), (5, .int .i64 (ParseInt_v0 (headB s 32))), (6, .bool true), (7, .int .i64 ((i : Nat) : Int)), (18, .bool false), (25, .bool true), (37, .bool false)] (fun U167 => ?_)
            have c168 := (SG.belowR c119 s166 (fun kq e => by cases e; exact lo8))
            refine h31 _ _ ?_
            refine wp_ret ?_
            try simp only [Exit.then]
            refine retCT (x := .bool false) rfl (by kernel_rfl) (by kernel_rfl) (by kernel_rfl) (by kernel_rfl) x165 ?_
            obtain ⟨e1, e2, e3⟩ := par_no (s := s) (unit_end hval hun (by omega))
            exact ⟨by rw [e1, e2, e3], c168⟩
        · rw [q115]
          refine W.mv (v := .tuple #[.int .i64 (ParseInt_v0 (headB s 32)), .bool false]) (h := ?_)
          refine W.q (v := .int .i64 (ParseInt_v0 (headB s 32))) (hr := (r_extract (vs := #[.int .i64 (ParseInt_v0 (headB s 32)), .bool false]) rfl (by kernel_rfl) (by kernel_rfl))) (h := ?_)
          refine W.q (v := .bool false) (hr := (r_extract (vs := #[.int .i64 (ParseInt_v0 (headB s 32)), .bool false]) rfl (by kernel_rfl) (by kernel_rfl))) (h := ?_)
          refine W.as (v := .int .i64 (ParseInt_v0 (headB s 32))) (h := ?_)
          refine W.as (v := .bool false) (h := ?_)
          refine W.endF 53 [(0, .string s), (2, .pointer (some ⟨b2, 0, none⟩)), (3, .bool false), (4, .slice (some ⟨g20, 0, none⟩) n13 c14), (5, .int .i64 (ParseInt_v0 (headB s 32))), (6, .bool false), (18, .bool false), (25, .bool true)] (fun U169 => ?_)
          have x6 := SG.blk s113 x6 (by simp)
          have c170 := (SG.belowR c108 s113 (fun kq e => by cases e))
          refine h20 _ _ ?_
          refine wp_seq_k (fun K32 h32 => ?_)
          refine wp_seq_k (fun K33 h33 => ?_)
          refine W.region_quiet [(0, false)] (by kernel_rfl) ?_
          refine W.as (v := .int .i64 1) (h := ?_)
          refine W.endF 53 [(0, .string s), (2, .pointer (some ⟨b2, 0, none⟩)), (3, .bool false), (4, .slice (some ⟨g20, 0, none⟩) n13 c14), (5, .int .i64 (ParseInt_v0 (headB s 32))), (6, .bool false), (7, .int .i64 1), (18, .bool false), (25, .bool true)] (fun U171 => ?_)
          refine h33 _ _ ?_
          refine wp_block ?_
          have hvr := val_read q52
          have hval : ∀ v k, goodK v k → textA v k = s → (ParseInt_v0 (headB s 32)) = v := fun v k hg e => (hvr v k hg e).2
          refine loopK (fun am0 aa0 wl0 => ∃ (i : Nat) (U0 : Nat → Value), aa0 = ⟨(fr U0 [(0, .string s), (2, .pointer (some ⟨b2, 0, none⟩)), (3, .bool false), (4, .slice (some ⟨g20, 0, none⟩) n13 c14), (5, .int .i64 (ParseInt_v0 (headB s 32))), (6, .bool false), (7, .int .i64 ((i : Nat) : Int)), (18, .bool false), (25, .bool true)] 53 0).toArray, []⟩ ∧ (am0 = 5 - i) ∧ (1 ≤ i ∧ i ≤ 5) ∧ (∀ j : Nat, j < i → ¬ (goodK (ParseInt_v0 (headB s 32)) j ∧ textA (ParseInt_v0 (headB s 32)) j = s)) ∧ (wl0.heap[b2]? = some (.cells #[.int .i64 0, .int .i64 0] 26 (0, 0))) ∧ (Below w.heap.size w wl0)) (5 - 1) ?_ ?_
          · exact ⟨1, (fun iU9 => lk [(0, .string s), (2, .pointer (some ⟨b2, 0, none⟩)), (3, .bool false), (4, .slice (some ⟨g20, 0, none⟩) n13 c14), (5, .int .i64 (ParseInt_v0 (headB s 32))), (6, .bool false), (7, .int .i64 1), (18, .bool false), (25, .bool true)] iU9 (U171 iU9)), (by kernel_rfl), rfl, (by omega), (fun j hj h9 => by have h8 := h9.1.2; omega), x6, c170⟩
          rintro am0 aa0 wl0 K34 h34 ⟨i, U0, rfl, rfl, hi, hun, x6, c172⟩
          refine wp_seq_k (fun K35 h35 => ?_)
          refine wp_seq_k (fun K36 h36 => ?_)
          refine W.region_quiet [(0, false), (1, false), (2, false), (3, false), (4, false)] (by kernel_rfl) ?_
          refine W.mv (v := .int .i64 ((i : Nat) : Int)) (h := ?_)
          by_cases q173 : (((i : Nat) : Int) : Int) ≤ (4 : Int)
          · refine W.q (v := .bool true) (hr := (r_leq (m := ((i : Nat) : Int)) (n := 4) rfl (by kernel_rfl) (by kernel_rfl) (decide_eq_true q173))) (h := ?_)
            refine W.mv (v := .bool true) (h := ?_)
            refine W.mv (v := .bool false) (h := ?_)
            refine W.q (v := .bool false) (hr := (r_pick (b := true) rfl (by kernel_rfl) (by kernel_rfl))) (h := ?_)
            refine W.endF 53 [(0, .string s), (2, .pointer (some ⟨b2, 0, none⟩)), (3, .bool false), (4, .slice (some ⟨g20, 0, none⟩) n13 c14), (5, .int .i64 (ParseInt_v0 (headB s 32))), (6, .bool false), (7, .int .i64 ((i : Nat) : Int)), (18, .bool false), (25, .bool true), (37, .bool false)] (fun U174 => ?_)
            refine h36 _ _ ?_
            refine wp_cond_false (by kernel_rfl) ?_
            refine wp_exit ?_
            refine h32 _ _ ?_
            refine wp_seq_k (fun K37 h37 => ?_)
            refine W.region_plain (row := (some b2)) [(0, false), (1, true), (2, false)] (by kernel_rfl) ?_
            have s175 := SG.self wl0 (some b2)
            refine W.q (v := .agg #[.int .i64 0, .int .i64 0]) (hr := (r_build rfl (vs := []) (by kernel_rfl) (by kernel_rfl))) (h := ?_)
            refine W.ss (v := .agg #[.int .i64 0, .int .i64 0]) (j := 0) (news := [.int .i64 0, .int .i64 0]) (cs' := #[.int .i64 0, .int .i64 0]) s175 rfl (by kernel_rfl) rfl rfl (by kernel_rfl) (by kernel_rfl) x6 (by kernel_rfl) (by kernel_rfl) (by simp) (by kernel_rfl) (by kernel_rfl) (.inl rfl) (fun w176 g177 x178 s179 => ?_)
            refine W.as (v := .bool false) (h := ?_)
            refine W.endF 53 [(0, .string s), (2, .pointer (some ⟨b2, 0, none⟩)), (3, .bool false), (4, .slice (some ⟨g20, 0, none⟩) n13 c14), (5, .int .i64 (ParseInt_v0 (headB s 32))), (6, .bool false), (7, .int .i64 ((i : Nat) : Int)), (18, .bool false), (25, .bool true), (37, .bool false)] (fun U180 => ?_)
            have c181 := (SG.belowR c172 s179 (fun kq e => by cases e; exact lo8))
            refine h37 _ _ ?_
            refine wp_ret ?_
            try simp only [Exit.then]
            refine retCT (x := .bool false) rfl (by kernel_rfl) (by kernel_rfl) (by kernel_rfl) (by kernel_rfl) x178 ?_
            obtain ⟨e1, e2, e3⟩ := par_no (s := s) (fun v k hg e => by have := (hvr v k hg e).1; rw [q115] at this; cases this)
            exact ⟨by rw [e1, e2, e3], c181⟩
          · refine W.q (v := .bool false) (hr := (r_leq (m := ((i : Nat) : Int)) (n := 4) rfl (by kernel_rfl) (by kernel_rfl) (decide_eq_false q173))) (h := ?_)
            refine W.mv (v := .bool false) (h := ?_)
            refine W.sp rfl (h := ?_)
            refine W.q (v := .bool false) (hr := (r_pick (b := false) rfl (by kernel_rfl) (by kernel_rfl))) (h := ?_)
            refine W.endF 53 [(0, .string s), (2, .pointer (some ⟨b2, 0, none⟩)), (3, .bool false), (4, .slice (some ⟨g20, 0, none⟩) n13 c14), (5, .int .i64 (ParseInt_v0 (headB s 32))), (6, .bool false), (7, .int .i64 ((i : Nat) : Int)), (18, .bool false), (25, .bool true), (37, .bool false)] (fun U182 => ?_)
            refine h36 _ _ ?_
            refine wp_cond_false (by kernel_rfl) ?_
            refine wp_exit ?_
            refine h32 _ _ ?_
            refine wp_seq_k (fun K38 h38 => ?_)
            refine W.region_plain (row := (some b2)) [(0, false), (1, true), (2, false)] (by kernel_rfl) ?_
            have s183 := SG.self wl0 (some b2)
            refine W.q (v := .agg #[.int .i64 0, .int .i64 0]) (hr := (r_build rfl (vs := []) (by kernel_rfl) (by kernel_rfl))) (h := ?_)
            refine W.ss (v := .agg #[.int .i64 0, .int .i64 0]) (j := 0) (news := [.int .i64 0, .int .i64 0]) (cs' := #[.int .i64 0, .int .i64 0]) s183 rfl (by kernel_rfl) rfl rfl (by kernel_rfl) (by kernel_rfl) x6 (by kernel_rfl) (by kernel_rfl) (by simp) (by kernel_rfl) (by kernel_rfl) (.inl rfl) (fun w184 g185 x186 s187 => ?_)
            refine W.as (v := .bool false) (h := ?_)
            refine W.endF 53 [(0, .string s), (2, .pointer (some ⟨b2, 0, none⟩)), (3, .bool false), (4, .slice (some ⟨g20, 0, none⟩) n13 c14), (5, .int .i64 (ParseInt_v0 (headB s 32))), (6, .bool false), (7, .int .i64 ((i : Nat) : Int)), (18, .bool false), (25, .bool true), (37, .bool false)] (fun U188 => ?_)
            have c189 := (SG.belowR c172 s187 (fun kq e => by cases e; exact lo8))
            refine h38 _ _ ?_
            refine wp_ret ?_
            try simp only [Exit.then]
            refine retCT (x := .bool false) rfl (by kernel_rfl) (by kernel_rfl) (by kernel_rfl) (by kernel_rfl) x186 ?_
            obtain ⟨e1, e2, e3⟩ := par_no (s := s) (fun v k hg e => by have := (hvr v k hg e).1; rw [q115] at this; cases this)
            exact ⟨by rw [e1, e2, e3], c189⟩

end Go.Proofs.YtlkphjlabmnjiaaDoor
