/- NetworkText of both packages. -/
import Derived.Test.YtmfapokolgnnhaaDoorNum2
import Derived.Test.YtmfapokolgnnhaaDoorNTxtP
import Derived.Test.YtmfapokolgnnhaaDoorNetC
namespace Go.Proofs.YtmfapokolgnnhaaDoor
open Go.RowKit
set_option linter.unusedVariables false
set_option linter.unusedSimpArgs false

set_option maxRecDepth 100000 in
set_option maxHeartbeats 1000000 in
theorem l2Text_any (m : Int) (A : Option Addr) (n c : Nat) (ps : List Pp) (w : World) (ha : Rd w 4 A n (pipesV ps)) (hsm : smallN m ps) :
    Calls Tryd.prog 30 #[.agg #[.int .i64 m, .slice A n c]] w fun e w' => e = .returned (.string (textN m ps)) ∧ Below w.heap.size w w' := by
  have hl := rd_pipes_len ha
  have hm9 := hsm.1
  have hl9 := hsm.2.1
  go_enter Tryd.func30, Tryd.ntmps30
  refine wp_seq_k (fun K1 h1 => ?_)
  refine W.region_plain (row := none) [(0, true), (1, false)] (by kernel_rfl) ?_
  have s1 := SG.self w none
  refine W.sn (fun b => .pointer (some ⟨b, 0, none⟩)) #[.int .i64 m, .slice A n c] 30 s1 rfl (by kernel_rfl) rfl (fun _ => by kernel_rfl) (fun b2 w3 hb4 k5 x6 s7 => ?_)
  have lo8 : w.heap.size ≤ b2 := by have := ((SG.belowR (Below.refl _ _) s1 (fun kq e => by cases e))).size; omega
  refine W.as (v := .string (⟨#[]⟩ : ByteArray)) (h := ?_)
  refine W.endF 45 [(0, .agg #[.int .i64 m, .slice A n c]), (1, .pointer (some ⟨b2, 0, none⟩)), (2, .string (⟨#[]⟩ : ByteArray))] (fun U9 => ?_)
  have c10 := (SG.belowR (Below.refl _ _) s7 (fun kq e => by cases e))
  refine h1 _ _ ?_
  refine wp_seq_k (fun K2 h2 => ?_)
  refine W.region_plain (row := none) [(0, false), (1, false), (2, true), (3, false), (4, false), (5, false)] (by kernel_rfl) ?_
  have s11 := SG.self w3 none
  refine W.q (v := .pointer (some ⟨b2, 0, none⟩)) (hr := (r_field0 rfl (by kernel_rfl) (by kernel_rfl))) (h := ?_)
  refine W.ld (v := .int .i64 m) (hc := (sgS (blk_cell (j := 0) x6 (by kernel_rfl)) (by simp))) (h := ?_)
  refine W.sc (vs := [.int .i64 m]) rfl rfl (by kernel_rfl) (by kernel_rfl) (by kernel_rfl) rfl (l1Num_any m (by omega) (by omega) _) ?_
  rintro e w13 ⟨rfl, b12⟩
  have s14 := SG.of_below s11 b12
  refine ⟨_, rfl, s14, ?_⟩
  refine W.q (v := .string ((⟨#[110, 111, 100, 101, 115, 32]⟩ : ByteArray) ++ (itoaB m))) (hr := (r_addS (s := (⟨#[110, 111, 100, 101, 115, 32]⟩ : ByteArray)) (r := (itoaB m)) rfl (by kernel_rfl) (by kernel_rfl) (by (try simp only [ByteArray.size_append, size1, sz2, sz6]); have := itoaB_le (n := m) (by omega) (by omega); omega))) (h := ?_)
  refine W.q (v := .string (((⟨#[110, 111, 100, 101, 115, 32]⟩ : ByteArray) ++ (itoaB m)) ++ (⟨#[10]⟩ : ByteArray))) (hr := (r_addS (s := ((⟨#[110, 111, 100, 101, 115, 32]⟩ : ByteArray) ++ (itoaB m))) (r := (⟨#[10]⟩ : ByteArray)) rfl (by kernel_rfl) (by kernel_rfl) (by (try simp only [ByteArray.size_append, size1, sz2, sz6]); have := itoaB_le (n := m) (by omega) (by omega); omega))) (h := ?_)
  refine W.as (v := .string (((⟨#[110, 111, 100, 101, 115, 32]⟩ : ByteArray) ++ (itoaB m)) ++ (⟨#[10]⟩ : ByteArray))) (h := ?_)
  refine W.endF 45 [(0, .agg #[.int .i64 m, .slice A n c]), (1, .pointer (some ⟨b2, 0, none⟩)), (2, .string (⟨#[]⟩ : ByteArray)), (3, .string (((⟨#[110, 111, 100, 101, 115, 32]⟩ : ByteArray) ++ (itoaB m)) ++ (⟨#[10]⟩ : ByteArray)))] (fun U15 => ?_)
  have x6 := SG.blk s14 x6 (by simp)
  have c16 := (SG.belowR c10 s14 (fun kq e => by cases e))
  refine h2 _ _ ?_
  refine wp_seq_k (fun K3 h3 => ?_)
  refine wp_seq_k (fun K4 h4 => ?_)
  refine W.region_quiet [(0, false)] (by kernel_rfl) ?_
  refine W.as (v := .int .i64 0) (h := ?_)
  refine W.endF 45 [(0, .agg #[.int .i64 m, .slice A n c]), (1, .pointer (some ⟨b2, 0, none⟩)), (2, .string (⟨#[]⟩ : ByteArray)), (3, .string (((⟨#[110, 111, 100, 101, 115, 32]⟩ : ByteArray) ++ (itoaB m)) ++ (⟨#[10]⟩ : ByteArray))), (4, .int .i64 0)] (fun U17 => ?_)
  refine h4 _ _ ?_
  refine wp_block ?_
  refine loopK (fun am0 aa0 wl0 => ∃ (k : Nat) (s : ByteArray) (U0 : Nat → Value), aa0 = ⟨(fr U0 [(0, .agg #[.int .i64 m, .slice A n c]), (1, .pointer (some ⟨b2, 0, none⟩)), (2, .string (⟨#[]⟩ : ByteArray)), (3, .string s), (4, .int .i64 ((k : Nat) : Int))] 45 0).toArray, []⟩ ∧ (am0 = n - k) ∧ (k ≤ n) ∧ (s = textN m (ps.take k)) ∧ (s.size ≤ 100 + 200 * k) ∧ (wl0.heap[b2]? = some (.cells #[.int .i64 m, .slice A n c] 30 (0, 0))) ∧ (Below w.heap.size w wl0)) (n - 0) ?_ ?_
  · exact ⟨0, (((⟨#[110, 111, 100, 101, 115, 32]⟩ : ByteArray) ++ (itoaB m)) ++ (⟨#[10]⟩ : ByteArray)), (fun iU9 => lk [(0, .agg #[.int .i64 m, .slice A n c]), (1, .pointer (some ⟨b2, 0, none⟩)), (2, .string (⟨#[]⟩ : ByteArray)), (3, .string (((⟨#[110, 111, 100, 101, 115, 32]⟩ : ByteArray) ++ (itoaB m)) ++ (⟨#[10]⟩ : ByteArray))), (4, .int .i64 0)] iU9 (U17 iU9)), (by kernel_rfl), rfl, (Nat.zero_le _), rfl, (by (try simp only [ByteArray.size_append, size1, sz2, sz6]); have := itoaB_le (n := m) (by omega) (by omega); omega), x6, c16⟩
  rintro am0 aa0 wl0 K5 h5 ⟨k, s, U0, rfl, rfl, hk, hs9, hsz, x6, c18⟩
  refine wp_seq_k (fun K6 h6 => ?_)
  refine wp_seq_k (fun K7 h7 => ?_)
  refine W.region_quiet [(0, false), (1, false), (2, false), (3, false), (4, false)] (by kernel_rfl) ?_
  refine W.mv (v := .int .i64 ((k : Nat) : Int)) (h := ?_)
  refine W.q (v := .pointer (some ⟨b2, 1, none⟩)) (hr := (r_field (k := 1) rfl (by kernel_rfl) (by kernel_rfl))) (h := ?_)
  refine W.ld (v := .slice A n c) (hc := (eqS (blk_cell (j := 1) x6 (by kernel_rfl)))) (h := ?_)
  refine W.q (v := .int .i64 ((n : Nat) : Int)) (hr := (r_len (A := A) (n := n) (c := c) rfl (by kernel_rfl) (by kernel_rfl))) (h := ?_)
  by_cases q19 : (((k : Nat) : Int) : Int) < (((n : Nat) : Int) : Int)
  · refine W.q (v := .bool true) (hr := (r_lss (m := ((k : Nat) : Int)) (n := ((n : Nat) : Int)) rfl (by kernel_rfl) (by kernel_rfl) (decide_eq_true q19))) (h := ?_)
    refine W.endF 45 [(0, .agg #[.int .i64 m, .slice A n c]), (1, .pointer (some ⟨b2, 0, none⟩)), (2, .string (⟨#[]⟩ : ByteArray)), (3, .string s), (4, .int .i64 ((k : Nat) : Int)), (15, .bool true)] (fun U20 => ?_)
    refine h7 _ _ ?_
    refine wp_cond_true (by kernel_rfl) ?_
    refine wp_skip ?_
    refine h6 _ _ ?_
    refine wp_seq_k (fun K8 h8 => ?_)
    refine wp_block ?_
    refine wp_seq_k (fun K9 h9 => ?_)
    refine W.region_plain (row := none) [(0, false), (1, false), (2, false), (3, false), (4, false), (5, true), (6, true)] (by kernel_rfl) ?_
    have s21 := SG.self wl0 none
    refine W.q (v := .pointer (some ⟨b2, 1, none⟩)) (hr := (r_field (k := 1) rfl (by kernel_rfl) (by kernel_rfl))) (h := ?_)
    refine W.ld (v := .slice A n c) (hc := (sgS (blk_cell (j := 1) x6 (by kernel_rfl)) (by simp))) (h := ?_)
    refine W.mv (v := .int .i64 ((k : Nat) : Int)) (h := ?_)
    obtain ⟨x22, hx23⟩ := get_of (zs := ps) (k := k) (by have := hl; omega)
    have hpb := hsm.2.2 _ (List.mem_of_getElem? hx23)
    obtain ⟨b24, o25, hA26, hb27, hc28, hc29, hc30, hc31⟩ := Rd.elPipe ha hx23
    refine W.q (v := .pointer (some ⟨b24, o25 + k * 4, none⟩)) (hr := (r_idx (n := n) (c := c) (k := k) rfl (by kernel_rfl) hA26 (by kernel_rfl) (by kernel_rfl) (by have := hl; omega))) (h := ?_)
    refine W.q (v := .agg #[.int .i64 x22.id, .int .i64 x22.fr, .int .i64 x22.to, .int .i64 x22.sz]) (hr := (r_load4 rfl (by kernel_rfl) (by kernel_rfl) (by kernel_rfl) (sgS (later c18 hc28) (by simp)) (sgS (later c18 hc29) (by simp)) (sgS (later c18 hc30) (by simp)) (sgS (later c18 hc31) (by simp)))) (h := ?_)
    refine W.sn (fun b => .pointer (some ⟨b, 0, none⟩)) #[.int .i64 0, .int .i64 0, .int .i64 0, .int .i64 0] 44 s21 rfl (by kernel_rfl) rfl (fun _ => by kernel_rfl) (fun b32 w33 hb34 k35 x36 s37 => ?_)
    have lo38 : w.heap.size ≤ b32 := by have := ((SG.belowR c18 s21 (fun kq e => by cases e))).size; omega
    have ne39 : b2 ≠ b32 := by have := blk_lt x6; have := (s21).size; omega
    refine W.ss (v := .agg #[.int .i64 x22.id, .int .i64 x22.fr, .int .i64 x22.to, .int .i64 x22.sz]) (j := 0) (news := [.int .i64 x22.id, .int .i64 x22.fr, .int .i64 x22.to, .int .i64 x22.sz]) (cs' := #[.int .i64 x22.id, .int .i64 x22.fr, .int .i64 x22.to, .int .i64 x22.sz]) s37 rfl (by kernel_rfl) rfl rfl (by kernel_rfl) (by kernel_rfl) x36 (by kernel_rfl) (by kernel_rfl) (by simp) (by kernel_rfl) (by kernel_rfl) (.inr (by have := (s21).size; have := hb34; omega)) (fun w40 g41 x42 s43 => ?_)
    refine W.endF 45 [(0, .agg #[.int .i64 m, .slice A n c]), (1, .pointer (some ⟨b2, 0, none⟩)), (2, .string (⟨#[]⟩ : ByteArray)), (3, .string s), (4, .int .i64 ((k : Nat) : Int)), (5, .pointer (some ⟨b32, 0, none⟩)), (15, .bool true)] (fun U44 => ?_)
    have x6 := SG.blk s43 x6 (by simp)
    have c45 := (SG.belowR c18 s43 (fun kq e => by cases e))
    refine h9 _ _ ?_
    refine W.region_sch (row := none) (Sch.of [(0, false), (1, false), (2, false), (6, false), (7, false), (11, false), (12, false), (16, false), (17, false), (3, true), (4, false), (5, false), (8, true), (9, false), (10, false), (13, true), (14, false), (15, false), (18, true), (19, false), (20, false), (21, false)]) (by kernel_rfl) (by kernel_rfl) (fun _ d _ _ _ h => by cases d <;> exact h) (by kernel_rfl) (fun w46 e47 s48 => ?_)
    refine W.mv (v := .string s) (h := ?_)
    refine W.q (v := .pointer (some ⟨b32, 0, none⟩)) (hr := (r_field0 rfl (by kernel_rfl) (by kernel_rfl))) (h := ?_)
    refine W.ld (v := .int .i64 x22.id) (hc := (sgS (blk_cell (j := 0) x42 (by kernel_rfl)) (by simp))) (h := ?_)
    refine W.q (v := .pointer (some ⟨b32, 1, none⟩)) (hr := (r_field (k := 1) rfl (by kernel_rfl) (by kernel_rfl))) (h := ?_)
    refine W.ld (v := .int .i64 x22.fr) (hc := (sgS (blk_cell (j := 1) x42 (by kernel_rfl)) (by simp))) (h := ?_)
    refine W.q (v := .pointer (some ⟨b32, 2, none⟩)) (hr := (r_field (k := 2) rfl (by kernel_rfl) (by kernel_rfl))) (h := ?_)
    refine W.ld (v := .int .i64 x22.to) (hc := (sgS (blk_cell (j := 2) x42 (by kernel_rfl)) (by simp))) (h := ?_)
    refine W.q (v := .pointer (some ⟨b32, 3, none⟩)) (hr := (r_field (k := 3) rfl (by kernel_rfl) (by kernel_rfl))) (h := ?_)
    refine W.ld (v := .int .i64 x22.sz) (hc := (sgS (blk_cell (j := 3) x42 (by kernel_rfl)) (by simp))) (h := ?_)
    refine W.sc (vs := [.int .i64 x22.id]) rfl rfl (by kernel_rfl) (by kernel_rfl) (by kernel_rfl) rfl (l1Num_any x22.id (by omega) (by omega) _) ?_
    rintro e w50 ⟨rfl, b49⟩
    have s51 := SG.of_below s48 b49
    refine ⟨_, rfl, s51, ?_⟩
    refine W.q (v := .string (s ++ (itoaB x22.id))) (hr := (r_addS (s := s) (r := (itoaB x22.id)) rfl (by kernel_rfl) (by kernel_rfl) (by (try simp only [ByteArray.size_append, size1, sz2, sz6]); have := itoaB_le (n := x22.id) (by omega) (by omega); omega))) (h := ?_)
    refine W.q (v := .string ((s ++ (itoaB x22.id)) ++ (⟨#[58, 32]⟩ : ByteArray))) (hr := (r_addS (s := (s ++ (itoaB x22.id))) (r := (⟨#[58, 32]⟩ : ByteArray)) rfl (by kernel_rfl) (by kernel_rfl) (by (try simp only [ByteArray.size_append, size1, sz2, sz6]); have := itoaB_le (n := x22.id) (by omega) (by omega); omega))) (h := ?_)
    refine W.sc (vs := [.int .i64 x22.fr]) rfl rfl (by kernel_rfl) (by kernel_rfl) (by kernel_rfl) rfl (l1Num_any x22.fr (by omega) (by omega) _) ?_
    rintro e w53 ⟨rfl, b52⟩
    have s54 := SG.of_below s51 b52
    refine ⟨_, rfl, s54, ?_⟩
    refine W.q (v := .string (((s ++ (itoaB x22.id)) ++ (⟨#[58, 32]⟩ : ByteArray)) ++ (itoaB x22.fr))) (hr := (r_addS (s := ((s ++ (itoaB x22.id)) ++ (⟨#[58, 32]⟩ : ByteArray))) (r := (itoaB x22.fr)) rfl (by kernel_rfl) (by kernel_rfl) (by (try simp only [ByteArray.size_append, size1, sz2, sz6]); have := itoaB_le (n := x22.fr) (by omega) (by omega); have := itoaB_le (n := x22.id) (by omega) (by omega); omega))) (h := ?_)
    refine W.q (v := .string ((((s ++ (itoaB x22.id)) ++ (⟨#[58, 32]⟩ : ByteArray)) ++ (itoaB x22.fr)) ++ (⟨#[45]⟩ : ByteArray))) (hr := (r_addS (s := (((s ++ (itoaB x22.id)) ++ (⟨#[58, 32]⟩ : ByteArray)) ++ (itoaB x22.fr))) (r := (⟨#[45]⟩ : ByteArray)) rfl (by kernel_rfl) (by kernel_rfl) (by (try simp only [ByteArray.size_append, size1, sz2, sz6]); have := itoaB_le (n := x22.fr) (by omega) (by omega); have := itoaB_le (n := x22.id) (by omega) (by omega); omega))) (h := ?_)
    refine W.sc (vs := [.int .i64 x22.to]) rfl rfl (by kernel_rfl) (by kernel_rfl) (by kernel_rfl) rfl (l1Num_any x22.to (by omega) (by omega) _) ?_
    rintro e w56 ⟨rfl, b55⟩
    have s57 := SG.of_below s54 b55
    refine ⟨_, rfl, s57, ?_⟩
    refine W.q (v := .string (((((s ++ (itoaB x22.id)) ++ (⟨#[58, 32]⟩ : ByteArray)) ++ (itoaB x22.fr)) ++ (⟨#[45]⟩ : ByteArray)) ++ (itoaB x22.to))) (hr := (r_addS (s := ((((s ++ (itoaB x22.id)) ++ (⟨#[58, 32]⟩ : ByteArray)) ++ (itoaB x22.fr)) ++ (⟨#[45]⟩ : ByteArray))) (r := (itoaB x22.to)) rfl (by kernel_rfl) (by kernel_rfl) (by (try simp only [ByteArray.size_append, size1, sz2, sz6]); have := itoaB_le (n := x22.fr) (by omega) (by omega); have := itoaB_le (n := x22.id) (by omega) (by omega); have := itoaB_le (n := x22.to) (by omega) (by omega); omega))) (h := ?_)
    refine W.q (v := .string ((((((s ++ (itoaB x22.id)) ++ (⟨#[58, 32]⟩ : ByteArray)) ++ (itoaB x22.fr)) ++ (⟨#[45]⟩ : ByteArray)) ++ (itoaB x22.to)) ++ (⟨#[32, 115, 105, 122, 101, 32]⟩ : ByteArray))) (hr := (r_addS (s := (((((s ++ (itoaB x22.id)) ++ (⟨#[58, 32]⟩ : ByteArray)) ++ (itoaB x22.fr)) ++ (⟨#[45]⟩ : ByteArray)) ++ (itoaB x22.to))) (r := (⟨#[32, 115, 105, 122, 101, 32]⟩ : ByteArray)) rfl (by kernel_rfl) (by kernel_rfl) (by (try simp only [ByteArray.size_append, size1, sz2, sz6]); have := itoaB_le (n := x22.fr) (by omega) (by omega); have := itoaB_le (n := x22.id) (by omega) (by omega); have := itoaB_le (n := x22.to) (by omega) (by omega); omega))) (h := ?_)
    refine W.sc (vs := [.int .i64 x22.sz]) rfl rfl (by kernel_rfl) (by kernel_rfl) (by kernel_rfl) rfl (l1Num_any x22.sz (by omega) (by omega) _) ?_
    rintro e w59 ⟨rfl, b58⟩
    have s60 := SG.of_below s57 b58
    refine ⟨_, rfl, s60, ?_⟩
    refine W.q (v := .string (((((((s ++ (itoaB x22.id)) ++ (⟨#[58, 32]⟩ : ByteArray)) ++ (itoaB x22.fr)) ++ (⟨#[45]⟩ : ByteArray)) ++ (itoaB x22.to)) ++ (⟨#[32, 115, 105, 122, 101, 32]⟩ : ByteArray)) ++ (itoaB x22.sz))) (hr := (r_addS (s := ((((((s ++ (itoaB x22.id)) ++ (⟨#[58, 32]⟩ : ByteArray)) ++ (itoaB x22.fr)) ++ (⟨#[45]⟩ : ByteArray)) ++ (itoaB x22.to)) ++ (⟨#[32, 115, 105, 122, 101, 32]⟩ : ByteArray))) (r := (itoaB x22.sz)) rfl (by kernel_rfl) (by kernel_rfl) (by (try simp only [ByteArray.size_append, size1, sz2, sz6]); have := itoaB_le (n := x22.fr) (by omega) (by omega); have := itoaB_le (n := x22.id) (by omega) (by omega); have := itoaB_le (n := x22.sz) (by omega) (by omega); have := itoaB_le (n := x22.to) (by omega) (by omega); omega))) (h := ?_)
    refine W.q (v := .string ((((((((s ++ (itoaB x22.id)) ++ (⟨#[58, 32]⟩ : ByteArray)) ++ (itoaB x22.fr)) ++ (⟨#[45]⟩ : ByteArray)) ++ (itoaB x22.to)) ++ (⟨#[32, 115, 105, 122, 101, 32]⟩ : ByteArray)) ++ (itoaB x22.sz)) ++ (⟨#[10]⟩ : ByteArray))) (hr := (r_addS (s := (((((((s ++ (itoaB x22.id)) ++ (⟨#[58, 32]⟩ : ByteArray)) ++ (itoaB x22.fr)) ++ (⟨#[45]⟩ : ByteArray)) ++ (itoaB x22.to)) ++ (⟨#[32, 115, 105, 122, 101, 32]⟩ : ByteArray)) ++ (itoaB x22.sz))) (r := (⟨#[10]⟩ : ByteArray)) rfl (by kernel_rfl) (by kernel_rfl) (by (try simp only [ByteArray.size_append, size1, sz2, sz6]); have := itoaB_le (n := x22.fr) (by omega) (by omega); have := itoaB_le (n := x22.id) (by omega) (by omega); have := itoaB_le (n := x22.sz) (by omega) (by omega); have := itoaB_le (n := x22.to) (by omega) (by omega); omega))) (h := ?_)
    refine W.as (v := .string ((((((((s ++ (itoaB x22.id)) ++ (⟨#[58, 32]⟩ : ByteArray)) ++ (itoaB x22.fr)) ++ (⟨#[45]⟩ : ByteArray)) ++ (itoaB x22.to)) ++ (⟨#[32, 115, 105, 122, 101, 32]⟩ : ByteArray)) ++ (itoaB x22.sz)) ++ (⟨#[10]⟩ : ByteArray))) (h := ?_)
    refine W.endF 45 [(0, .agg #[.int .i64 m, .slice A n c]), (1, .pointer (some ⟨b2, 0, none⟩)), (2, .string (⟨#[]⟩ : ByteArray)), (3, .string ((((((((s ++ (itoaB x22.id)) ++ (⟨#[58, 32]⟩ : ByteArray)) ++ (itoaB x22.fr)) ++ (⟨#[45]⟩ : ByteArray)) ++ (itoaB x22.to)) ++ (⟨#[32, 115, 105, 122, 101, 32]⟩ : ByteArray)) ++ (itoaB x22.sz)) ++ (⟨#[10]⟩ : ByteArray))), (4, .int .i64 ((k : Nat) : Int)), (5, .pointer (some ⟨b32, 0, none⟩)), (15, .bool true)] (fun U61 => ?_)
    have x6 := SG.blk s60 x6 (by simp)
    have x42 := SG.blk s60 x42 (by simp)
    have c62 := (SG.belowR c45 s60 (fun kq e => by cases e))
    refine h8 _ _ ?_
    refine W.region_quiet [(0, false), (1, false), (2, false)] (by kernel_rfl) ?_
    refine W.mv (v := .int .i64 ((k : Nat) : Int)) (h := ?_)
    refine W.q (v := .int .i64 ((k + 1 : Nat) : Int)) (hr := (r_add (m := ((k : Nat) : Int)) (n := 1) (z := ((k + 1 : Nat) : Int)) rfl (by kernel_rfl) (by kernel_rfl) (by omega) (by omega))) (h := ?_)
    refine W.as (v := .int .i64 ((k + 1 : Nat) : Int)) (h := ?_)
    refine W.endF 45 [(0, .agg #[.int .i64 m, .slice A n c]), (1, .pointer (some ⟨b2, 0, none⟩)), (2, .string (⟨#[]⟩ : ByteArray)), (3, .string ((((((((s ++ (itoaB x22.id)) ++ (⟨#[58, 32]⟩ : ByteArray)) ++ (itoaB x22.fr)) ++ (⟨#[45]⟩ : ByteArray)) ++ (itoaB x22.to)) ++ (⟨#[32, 115, 105, 122, 101, 32]⟩ : ByteArray)) ++ (itoaB x22.sz)) ++ (⟨#[10]⟩ : ByteArray))), (4, .int .i64 ((k + 1 : Nat) : Int)), (5, .pointer (some ⟨b32, 0, none⟩)), (15, .bool true)] (fun U63 => ?_)
    exact h5 _ _ _ (by omega : (n - (k + 1)) < _) ⟨k + 1, ((((((((s ++ (itoaB x22.id)) ++ (⟨#[58, 32]⟩ : ByteArray)) ++ (itoaB x22.fr)) ++ (⟨#[45]⟩ : ByteArray)) ++ (itoaB x22.to)) ++ (⟨#[32, 115, 105, 122, 101, 32]⟩ : ByteArray)) ++ (itoaB x22.sz)) ++ (⟨#[10]⟩ : ByteArray)), (fun iU9 => lk [(0, .agg #[.int .i64 m, .slice A n c]), (1, .pointer (some ⟨b2, 0, none⟩)), (2, .string (⟨#[]⟩ : ByteArray)), (3, .string ((((((((s ++ (itoaB x22.id)) ++ (⟨#[58, 32]⟩ : ByteArray)) ++ (itoaB x22.fr)) ++ (⟨#[45]⟩ : ByteArray)) ++ (itoaB x22.to)) ++ (⟨#[32, 115, 105, 122, 101, 32]⟩ : ByteArray)) ++ (itoaB x22.sz)) ++ (⟨#[10]⟩ : ByteArray))), (4, .int .i64 ((k + 1 : Nat) : Int)), (5, .pointer (some ⟨b32, 0, none⟩)), (15, .bool true)] iU9 (U63 iU9)), (by kernel_rfl), rfl, (by omega), (by rw [textN_take hx23, hs9]; unfold lineB; simp only [ByteArray.append_assoc]), (by have h7 := hsz; (try simp only [ByteArray.size_append, size1, sz2, sz6]); have := itoaB_le (n := x22.id) (by omega) (by omega); have := itoaB_le (n := x22.fr) (by omega) (by omega); have := itoaB_le (n := x22.to) (by omega) (by omega); have := itoaB_le (n := x22.sz) (by omega) (by omega); omega), x6, c62⟩
  · refine W.q (v := .bool false) (hr := (r_lss (m := ((k : Nat) : Int)) (n := ((n : Nat) : Int)) rfl (by kernel_rfl) (by kernel_rfl) (decide_eq_false q19))) (h := ?_)
    refine W.endF 45 [(0, .agg #[.int .i64 m, .slice A n c]), (1, .pointer (some ⟨b2, 0, none⟩)), (2, .string (⟨#[]⟩ : ByteArray)), (3, .string s), (4, .int .i64 ((k : Nat) : Int)), (15, .bool false)] (fun U64 => ?_)
    refine h7 _ _ ?_
    refine wp_cond_false (by kernel_rfl) ?_
    refine wp_exit ?_
    refine h3 _ _ ?_
    refine wp_seq_k (fun K10 h10 => ?_)
    refine W.region_quiet [(0, false), (1, false)] (by kernel_rfl) ?_
    refine W.mv (v := .string s) (h := ?_)
    refine W.as (v := .string s) (h := ?_)
    refine W.endF 45 [(0, .agg #[.int .i64 m, .slice A n c]), (1, .pointer (some ⟨b2, 0, none⟩)), (2, .string s), (3, .string s), (4, .int .i64 ((k : Nat) : Int)), (15, .bool false)] (fun U65 => ?_)
    refine h10 _ _ ?_
    refine wp_ret ?_
    try simp only [Exit.then]
    refine ret1 (v := .string s) rfl (by kernel_rfl) ?_
    have e9 : s = textN m ps := by rw [hs9, List.take_of_length_le (by omega)]
    exact ⟨by rw [e9], c18⟩

set_option maxRecDepth 100000 in
set_option maxHeartbeats 1000000 in
theorem networkText_any (m : Int) (A : Option Addr) (n c : Nat) (ps : List Pp) (w : World) (ha : Rd w 4 A n (pipesV ps)) (hsm : smallN m ps) (htab : Lib.TabIs Tryd.prog w "internal/strconv.uint64pow10" .u64 Lib.pow10Tab) :
    Calls Tryd.prog 32 #[.agg #[.int .i64 m, .slice A n c]] w fun e w' => e = .returned (.string (textN m ps)) ∧ Below w.heap.size w w' := by
  have hl := rd_pipes_len ha
  have hm9 := hsm.1
  have hl9 := hsm.2.1
  go_enter Tryd.func32, Tryd.ntmps32
  refine wp_seq_k (fun K1 h1 => ?_)
  refine W.region_plain (row := none) [(0, true), (1, false)] (by kernel_rfl) ?_
  have s1 := SG.self w none
  refine W.sn (fun b => .pointer (some ⟨b, 0, none⟩)) #[.int .i64 m, .slice A n c] 30 s1 rfl (by kernel_rfl) rfl (fun _ => by kernel_rfl) (fun b2 w3 hb4 k5 x6 s7 => ?_)
  have lo8 : w.heap.size ≤ b2 := by have := ((SG.belowR (Below.refl _ _) s1 (fun kq e => by cases e))).size; omega
  refine W.as (v := .string (⟨#[]⟩ : ByteArray)) (h := ?_)
  refine W.endF 41 [(0, .agg #[.int .i64 m, .slice A n c]), (1, .pointer (some ⟨b2, 0, none⟩)), (2, .string (⟨#[]⟩ : ByteArray))] (fun U9 => ?_)
  have c10 := (SG.belowR (Below.refl _ _) s7 (fun kq e => by cases e))
  refine h1 _ _ ?_
  refine wp_seq_k (fun K2 h2 => ?_)
  refine W.region_plain (row := none) [(0, false), (1, false), (2, true), (3, false), (4, false), (5, false)] (by kernel_rfl) ?_
  have s11 := SG.self w3 none
  refine W.q (v := .pointer (some ⟨b2, 0, none⟩)) (hr := (r_field0 rfl (by kernel_rfl) (by kernel_rfl))) (h := ?_)
  refine W.ld (v := .int .i64 m) (hc := (sgS (blk_cell (j := 0) x6 (by kernel_rfl)) (by simp))) (h := ?_)
  refine W.sc (vs := [.int .i64 m]) rfl rfl (by kernel_rfl) (by kernel_rfl) (by kernel_rfl) rfl (itoa_lib m (by omega) (by omega) _ (tab_kept htab (SG.belowR c10 s11 (fun kq e => by cases e)))) ?_
  rintro e w13 ⟨rfl, b12⟩
  have s14 := SG.of_below s11 b12
  refine ⟨_, rfl, s14, ?_⟩
  refine W.q (v := .string ((⟨#[110, 111, 100, 101, 115, 32]⟩ : ByteArray) ++ (itoaB m))) (hr := (r_addS (s := (⟨#[110, 111, 100, 101, 115, 32]⟩ : ByteArray)) (r := (itoaB m)) rfl (by kernel_rfl) (by kernel_rfl) (by (try simp only [ByteArray.size_append, size1, sz2, sz6]); have := itoaB_le (n := m) (by omega) (by omega); omega))) (h := ?_)
  refine W.q (v := .string (((⟨#[110, 111, 100, 101, 115, 32]⟩ : ByteArray) ++ (itoaB m)) ++ (⟨#[10]⟩ : ByteArray))) (hr := (r_addS (s := ((⟨#[110, 111, 100, 101, 115, 32]⟩ : ByteArray) ++ (itoaB m))) (r := (⟨#[10]⟩ : ByteArray)) rfl (by kernel_rfl) (by kernel_rfl) (by (try simp only [ByteArray.size_append, size1, sz2, sz6]); have := itoaB_le (n := m) (by omega) (by omega); omega))) (h := ?_)
  refine W.as (v := .string (((⟨#[110, 111, 100, 101, 115, 32]⟩ : ByteArray) ++ (itoaB m)) ++ (⟨#[10]⟩ : ByteArray))) (h := ?_)
  refine W.endF 41 [(0, .agg #[.int .i64 m, .slice A n c]), (1, .pointer (some ⟨b2, 0, none⟩)), (2, .string (⟨#[]⟩ : ByteArray)), (3, .string (((⟨#[110, 111, 100, 101, 115, 32]⟩ : ByteArray) ++ (itoaB m)) ++ (⟨#[10]⟩ : ByteArray)))] (fun U15 => ?_)
  have x6 := SG.blk s14 x6 (by simp)
  have c16 := (SG.belowR c10 s14 (fun kq e => by cases e))
  refine h2 _ _ ?_
  refine wp_seq_k (fun K3 h3 => ?_)
  refine wp_seq_k (fun K4 h4 => ?_)
  refine W.region_quiet [(0, false), (1, false), (2, false), (3, false)] (by kernel_rfl) ?_
  refine W.q (v := .pointer (some ⟨b2, 1, none⟩)) (hr := (r_field (k := 1) rfl (by kernel_rfl) (by kernel_rfl))) (h := ?_)
  refine W.ld (v := .slice A n c) (hc := (eqS (blk_cell (j := 1) x6 (by kernel_rfl)))) (h := ?_)
  refine W.q (v := .int .i64 ((n : Nat) : Int)) (hr := (r_len (A := A) (n := n) (c := c) rfl (by kernel_rfl) (by kernel_rfl))) (h := ?_)
  refine W.mv (v := .int .i64 0) (h := ?_)
  refine W.endF 41 [(0, .agg #[.int .i64 m, .slice A n c]), (1, .pointer (some ⟨b2, 0, none⟩)), (2, .string (⟨#[]⟩ : ByteArray)), (3, .string (((⟨#[110, 111, 100, 101, 115, 32]⟩ : ByteArray) ++ (itoaB m)) ++ (⟨#[10]⟩ : ByteArray))), (12, .slice A n c), (13, .int .i64 ((n : Nat) : Int)), (14, .int .i64 0)] (fun U17 => ?_)
  refine h4 _ _ ?_
  refine wp_block ?_
  refine loopK (fun am0 aa0 wl0 => ∃ (k : Nat) (s : ByteArray) (U0 : Nat → Value), aa0 = ⟨(fr U0 [(0, .agg #[.int .i64 m, .slice A n c]), (1, .pointer (some ⟨b2, 0, none⟩)), (2, .string (⟨#[]⟩ : ByteArray)), (3, .string s), (12, .slice A n c), (13, .int .i64 ((n : Nat) : Int)), (14, .int .i64 ((k : Nat) : Int))] 41 0).toArray, []⟩ ∧ (am0 = n - k) ∧ (k ≤ n) ∧ (s = textN m (ps.take k)) ∧ (s.size ≤ 100 + 200 * k) ∧ (wl0.heap[b2]? = some (.cells #[.int .i64 m, .slice A n c] 30 (0, 0))) ∧ (Below w.heap.size w wl0)) (n - 0) ?_ ?_
  · exact ⟨0, (((⟨#[110, 111, 100, 101, 115, 32]⟩ : ByteArray) ++ (itoaB m)) ++ (⟨#[10]⟩ : ByteArray)), (fun iU9 => lk [(0, .agg #[.int .i64 m, .slice A n c]), (1, .pointer (some ⟨b2, 0, none⟩)), (2, .string (⟨#[]⟩ : ByteArray)), (3, .string (((⟨#[110, 111, 100, 101, 115, 32]⟩ : ByteArray) ++ (itoaB m)) ++ (⟨#[10]⟩ : ByteArray))), (12, .slice A n c), (13, .int .i64 ((n : Nat) : Int)), (14, .int .i64 0)] iU9 (U17 iU9)), (by kernel_rfl), rfl, (Nat.zero_le _), rfl, (by (try simp only [ByteArray.size_append, size1, sz2, sz6]); have := itoaB_le (n := m) (by omega) (by omega); omega), x6, c16⟩
  rintro am0 aa0 wl0 K5 h5 ⟨k, s, U0, rfl, rfl, hk, hs9, hsz, x6, c18⟩
  refine wp_seq_k (fun K6 h6 => ?_)
  refine W.region_quiet [(0, false)] (by kernel_rfl) ?_
  by_cases q19 : (((k : Nat) : Int) : Int) < (((n : Nat) : Int) : Int)
  · refine W.q (v := .bool true) (hr := (r_lss (m := ((k : Nat) : Int)) (n := ((n : Nat) : Int)) rfl (by kernel_rfl) (by kernel_rfl) (decide_eq_true q19))) (h := ?_)
    refine W.endF 41 [(0, .agg #[.int .i64 m, .slice A n c]), (1, .pointer (some ⟨b2, 0, none⟩)), (2, .string (⟨#[]⟩ : ByteArray)), (3, .string s), (12, .slice A n c), (13, .int .i64 ((n : Nat) : Int)), (14, .int .i64 ((k : Nat) : Int)), (15, .bool true)] (fun U20 => ?_)
    refine h6 _ _ ?_
    refine wp_seq_k (fun K7 h7 => ?_)
    refine wp_cond_true (by kernel_rfl) ?_
    refine wp_skip ?_
    refine h7 _ _ ?_
    refine wp_seq_k (fun K8 h8 => ?_)
    refine wp_block ?_
    refine wp_seq_k (fun K9 h9 => ?_)
    refine W.region_plain (row := none) [(0, false), (1, false), (2, true), (3, true)] (by kernel_rfl) ?_
    have s21 := SG.self wl0 none
    obtain ⟨x22, hx23⟩ := get_of (zs := ps) (k := k) (by have := hl; omega)
    have hpb := hsm.2.2 _ (List.mem_of_getElem? hx23)
    obtain ⟨b24, o25, hA26, hb27, hc28, hc29, hc30, hc31⟩ := Rd.elPipe ha hx23
    refine W.q (v := .pointer (some ⟨b24, o25 + k * 4, none⟩)) (hr := (r_idx (n := n) (c := c) (k := k) rfl (by kernel_rfl) hA26 (by kernel_rfl) (by kernel_rfl) (by have := hl; omega))) (h := ?_)
    refine W.q (v := .agg #[.int .i64 x22.id, .int .i64 x22.fr, .int .i64 x22.to, .int .i64 x22.sz]) (hr := (r_load4 rfl (by kernel_rfl) (by kernel_rfl) (by kernel_rfl) (sgS (later c18 hc28) (by simp)) (sgS (later c18 hc29) (by simp)) (sgS (later c18 hc30) (by simp)) (sgS (later c18 hc31) (by simp)))) (h := ?_)
    refine W.sn (fun b => .pointer (some ⟨b, 0, none⟩)) #[.int .i64 0, .int .i64 0, .int .i64 0, .int .i64 0] 44 s21 rfl (by kernel_rfl) rfl (fun _ => by kernel_rfl) (fun b32 w33 hb34 k35 x36 s37 => ?_)
    have lo38 : w.heap.size ≤ b32 := by have := ((SG.belowR c18 s21 (fun kq e => by cases e))).size; omega
    have ne39 : b2 ≠ b32 := by have := blk_lt x6; have := (s21).size; omega
    refine W.ss (v := .agg #[.int .i64 x22.id, .int .i64 x22.fr, .int .i64 x22.to, .int .i64 x22.sz]) (j := 0) (news := [.int .i64 x22.id, .int .i64 x22.fr, .int .i64 x22.to, .int .i64 x22.sz]) (cs' := #[.int .i64 x22.id, .int .i64 x22.fr, .int .i64 x22.to, .int .i64 x22.sz]) s37 rfl (by kernel_rfl) rfl rfl (by kernel_rfl) (by kernel_rfl) x36 (by kernel_rfl) (by kernel_rfl) (by simp) (by kernel_rfl) (by kernel_rfl) (.inr (by have := (s21).size; have := hb34; omega)) (fun w40 g41 x42 s43 => ?_)
    refine W.endF 41 [(0, .agg #[.int .i64 m, .slice A n c]), (1, .pointer (some ⟨b2, 0, none⟩)), (2, .string (⟨#[]⟩ : ByteArray)), (3, .string s), (5, .pointer (some ⟨b32, 0, none⟩)), (12, .slice A n c), (13, .int .i64 ((n : Nat) : Int)), (14, .int .i64 ((k : Nat) : Int)), (15, .bool true)] (fun U44 => ?_)
    have x6 := SG.blk s43 x6 (by simp)
    have c45 := (SG.belowR c18 s43 (fun kq e => by cases e))
    refine h9 _ _ ?_
    refine W.region_sch (row := none) (Sch.of [(0, false), (1, false), (2, false), (5, false), (6, false), (10, false), (11, false), (15, false), (16, false), (3, true), (4, false), (7, true), (8, false), (9, false), (12, true), (13, false), (14, false), (17, true), (18, false), (19, false), (20, false), (21, false)]) (by kernel_rfl) (by kernel_rfl) (fun _ d _ _ _ h => by cases d <;> exact h) (by kernel_rfl) (fun w46 e47 s48 => ?_)
    refine W.mv (v := .string s) (h := ?_)
    refine W.q (v := .pointer (some ⟨b32, 0, none⟩)) (hr := (r_field0 rfl (by kernel_rfl) (by kernel_rfl))) (h := ?_)
    refine W.ld (v := .int .i64 x22.id) (hc := (sgS (blk_cell (j := 0) x42 (by kernel_rfl)) (by simp))) (h := ?_)
    refine W.q (v := .pointer (some ⟨b32, 1, none⟩)) (hr := (r_field (k := 1) rfl (by kernel_rfl) (by kernel_rfl))) (h := ?_)
    refine W.ld (v := .int .i64 x22.fr) (hc := (sgS (blk_cell (j := 1) x42 (by kernel_rfl)) (by simp))) (h := ?_)
    refine W.q (v := .pointer (some ⟨b32, 2, none⟩)) (hr := (r_field (k := 2) rfl (by kernel_rfl) (by kernel_rfl))) (h := ?_)
    refine W.ld (v := .int .i64 x22.to) (hc := (sgS (blk_cell (j := 2) x42 (by kernel_rfl)) (by simp))) (h := ?_)
    refine W.q (v := .pointer (some ⟨b32, 3, none⟩)) (hr := (r_field (k := 3) rfl (by kernel_rfl) (by kernel_rfl))) (h := ?_)
    refine W.ld (v := .int .i64 x22.sz) (hc := (sgS (blk_cell (j := 3) x42 (by kernel_rfl)) (by simp))) (h := ?_)
    refine W.sc (vs := [.int .i64 x22.id]) rfl rfl (by kernel_rfl) (by kernel_rfl) (by kernel_rfl) rfl (itoa_lib x22.id (by omega) (by omega) _ (tab_kept htab (SG.belowR c45 s48 (fun kq e => by cases e)))) ?_
    rintro e w50 ⟨rfl, b49⟩
    have s51 := SG.of_below s48 b49
    refine ⟨_, rfl, s51, ?_⟩
    refine W.q (v := .string ((itoaB x22.id) ++ (⟨#[58, 32]⟩ : ByteArray))) (hr := (r_addS (s := (itoaB x22.id)) (r := (⟨#[58, 32]⟩ : ByteArray)) rfl (by kernel_rfl) (by kernel_rfl) (by (try simp only [ByteArray.size_append, size1, sz2, sz6]); have := itoaB_le (n := x22.id) (by omega) (by omega); omega))) (h := ?_)
    refine W.sc (vs := [.int .i64 x22.fr]) rfl rfl (by kernel_rfl) (by kernel_rfl) (by kernel_rfl) rfl (itoa_lib x22.fr (by omega) (by omega) _ (tab_kept htab (SG.belowR c45 s51 (fun kq e => by cases e)))) ?_
    rintro e w53 ⟨rfl, b52⟩
    have s54 := SG.of_below s51 b52
    refine ⟨_, rfl, s54, ?_⟩
    refine W.q (v := .string (((itoaB x22.id) ++ (⟨#[58, 32]⟩ : ByteArray)) ++ (itoaB x22.fr))) (hr := (r_addS (s := ((itoaB x22.id) ++ (⟨#[58, 32]⟩ : ByteArray))) (r := (itoaB x22.fr)) rfl (by kernel_rfl) (by kernel_rfl) (by (try simp only [ByteArray.size_append, size1, sz2, sz6]); have := itoaB_le (n := x22.fr) (by omega) (by omega); have := itoaB_le (n := x22.id) (by omega) (by omega); omega))) (h := ?_)
    refine W.q (v := .string ((((itoaB x22.id) ++ (⟨#[58, 32]⟩ : ByteArray)) ++ (itoaB x22.fr)) ++ (⟨#[45]⟩ : ByteArray))) (hr := (r_addS (s := (((itoaB x22.id) ++ (⟨#[58, 32]⟩ : ByteArray)) ++ (itoaB x22.fr))) (r := (⟨#[45]⟩ : ByteArray)) rfl (by kernel_rfl) (by kernel_rfl) (by (try simp only [ByteArray.size_append, size1, sz2, sz6]); have := itoaB_le (n := x22.fr) (by omega) (by omega); have := itoaB_le (n := x22.id) (by omega) (by omega); omega))) (h := ?_)
    refine W.sc (vs := [.int .i64 x22.to]) rfl rfl (by kernel_rfl) (by kernel_rfl) (by kernel_rfl) rfl (itoa_lib x22.to (by omega) (by omega) _ (tab_kept htab (SG.belowR c45 s54 (fun kq e => by cases e)))) ?_
    rintro e w56 ⟨rfl, b55⟩
    have s57 := SG.of_below s54 b55
    refine ⟨_, rfl, s57, ?_⟩
    refine W.q (v := .string (((((itoaB x22.id) ++ (⟨#[58, 32]⟩ : ByteArray)) ++ (itoaB x22.fr)) ++ (⟨#[45]⟩ : ByteArray)) ++ (itoaB x22.to))) (hr := (r_addS (s := ((((itoaB x22.id) ++ (⟨#[58, 32]⟩ : ByteArray)) ++ (itoaB x22.fr)) ++ (⟨#[45]⟩ : ByteArray))) (r := (itoaB x22.to)) rfl (by kernel_rfl) (by kernel_rfl) (by (try simp only [ByteArray.size_append, size1, sz2, sz6]); have := itoaB_le (n := x22.fr) (by omega) (by omega); have := itoaB_le (n := x22.id) (by omega) (by omega); have := itoaB_le (n := x22.to) (by omega) (by omega); omega))) (h := ?_)
    refine W.q (v := .string ((((((itoaB x22.id) ++ (⟨#[58, 32]⟩ : ByteArray)) ++ (itoaB x22.fr)) ++ (⟨#[45]⟩ : ByteArray)) ++ (itoaB x22.to)) ++ (⟨#[32, 115, 105, 122, 101, 32]⟩ : ByteArray))) (hr := (r_addS (s := (((((itoaB x22.id) ++ (⟨#[58, 32]⟩ : ByteArray)) ++ (itoaB x22.fr)) ++ (⟨#[45]⟩ : ByteArray)) ++ (itoaB x22.to))) (r := (⟨#[32, 115, 105, 122, 101, 32]⟩ : ByteArray)) rfl (by kernel_rfl) (by kernel_rfl) (by (try simp only [ByteArray.size_append, size1, sz2, sz6]); have := itoaB_le (n := x22.fr) (by omega) (by omega); have := itoaB_le (n := x22.id) (by omega) (by omega); have := itoaB_le (n := x22.to) (by omega) (by omega); omega))) (h := ?_)
    refine W.sc (vs := [.int .i64 x22.sz]) rfl rfl (by kernel_rfl) (by kernel_rfl) (by kernel_rfl) rfl (itoa_lib x22.sz (by omega) (by omega) _ (tab_kept htab (SG.belowR c45 s57 (fun kq e => by cases e)))) ?_
    rintro e w59 ⟨rfl, b58⟩
    have s60 := SG.of_below s57 b58
    refine ⟨_, rfl, s60, ?_⟩
    refine W.q (v := .string (((((((itoaB x22.id) ++ (⟨#[58, 32]⟩ : ByteArray)) ++ (itoaB x22.fr)) ++ (⟨#[45]⟩ : ByteArray)) ++ (itoaB x22.to)) ++ (⟨#[32, 115, 105, 122, 101, 32]⟩ : ByteArray)) ++ (itoaB x22.sz))) (hr := (r_addS (s := ((((((itoaB x22.id) ++ (⟨#[58, 32]⟩ : ByteArray)) ++ (itoaB x22.fr)) ++ (⟨#[45]⟩ : ByteArray)) ++ (itoaB x22.to)) ++ (⟨#[32, 115, 105, 122, 101, 32]⟩ : ByteArray))) (r := (itoaB x22.sz)) rfl (by kernel_rfl) (by kernel_rfl) (by (try simp only [ByteArray.size_append, size1, sz2, sz6]); have := itoaB_le (n := x22.fr) (by omega) (by omega); have := itoaB_le (n := x22.id) (by omega) (by omega); have := itoaB_le (n := x22.sz) (by omega) (by omega); have := itoaB_le (n := x22.to) (by omega) (by omega); omega))) (h := ?_)
    refine W.q (v := .string ((((((((itoaB x22.id) ++ (⟨#[58, 32]⟩ : ByteArray)) ++ (itoaB x22.fr)) ++ (⟨#[45]⟩ : ByteArray)) ++ (itoaB x22.to)) ++ (⟨#[32, 115, 105, 122, 101, 32]⟩ : ByteArray)) ++ (itoaB x22.sz)) ++ (⟨#[10]⟩ : ByteArray))) (hr := (r_addS (s := (((((((itoaB x22.id) ++ (⟨#[58, 32]⟩ : ByteArray)) ++ (itoaB x22.fr)) ++ (⟨#[45]⟩ : ByteArray)) ++ (itoaB x22.to)) ++ (⟨#[32, 115, 105, 122, 101, 32]⟩ : ByteArray)) ++ (itoaB x22.sz))) (r := (⟨#[10]⟩ : ByteArray)) rfl (by kernel_rfl) (by kernel_rfl) (by (try simp only [ByteArray.size_append, size1, sz2, sz6]); have := itoaB_le (n := x22.fr) (by omega) (by omega); have := itoaB_le (n := x22.id) (by omega) (by omega); have := itoaB_le (n := x22.sz) (by omega) (by omega); have := itoaB_le (n := x22.to) (by omega) (by omega); omega))) (h := ?_)
    refine W.q (v := .string (s ++ ((((((((itoaB x22.id) ++ (⟨#[58, 32]⟩ : ByteArray)) ++ (itoaB x22.fr)) ++ (⟨#[45]⟩ : ByteArray)) ++ (itoaB x22.to)) ++ (⟨#[32, 115, 105, 122, 101, 32]⟩ : ByteArray)) ++ (itoaB x22.sz)) ++ (⟨#[10]⟩ : ByteArray)))) (hr := (r_addS (s := s) (r := ((((((((itoaB x22.id) ++ (⟨#[58, 32]⟩ : ByteArray)) ++ (itoaB x22.fr)) ++ (⟨#[45]⟩ : ByteArray)) ++ (itoaB x22.to)) ++ (⟨#[32, 115, 105, 122, 101, 32]⟩ : ByteArray)) ++ (itoaB x22.sz)) ++ (⟨#[10]⟩ : ByteArray))) rfl (by kernel_rfl) (by kernel_rfl) (by (try simp only [ByteArray.size_append, size1, sz2, sz6]); have := itoaB_le (n := x22.fr) (by omega) (by omega); have := itoaB_le (n := x22.id) (by omega) (by omega); have := itoaB_le (n := x22.sz) (by omega) (by omega); have := itoaB_le (n := x22.to) (by omega) (by omega); omega))) (h := ?_)
    refine W.as (v := .string (s ++ ((((((((itoaB x22.id) ++ (⟨#[58, 32]⟩ : ByteArray)) ++ (itoaB x22.fr)) ++ (⟨#[45]⟩ : ByteArray)) ++ (itoaB x22.to)) ++ (⟨#[32, 115, 105, 122, 101, 32]⟩ : ByteArray)) ++ (itoaB x22.sz)) ++ (⟨#[10]⟩ : ByteArray)))) (h := ?_)
    refine W.endF 41 [(0, .agg #[.int .i64 m, .slice A n c]), (1, .pointer (some ⟨b2, 0, none⟩)), (2, .string (⟨#[]⟩ : ByteArray)), (3, .string (s ++ ((((((((itoaB x22.id) ++ (⟨#[58, 32]⟩ : ByteArray)) ++ (itoaB x22.fr)) ++ (⟨#[45]⟩ : ByteArray)) ++ (itoaB x22.to)) ++ (⟨#[32, 115, 105, 122, 101, 32]⟩ : ByteArray)) ++ (itoaB x22.sz)) ++ (⟨#[10]⟩ : ByteArray)))), (5, .pointer (some ⟨b32, 0, none⟩)), (12, .slice A n c), (13, .int .i64 ((n : Nat) : Int)), (14, .int .i64 ((k : Nat) : Int)), (15, .bool true)] (fun U61 => ?_)
    have x6 := SG.blk s60 x6 (by simp)
    have x42 := SG.blk s60 x42 (by simp)
    have c62 := (SG.belowR c45 s60 (fun kq e => by cases e))
    refine h8 _ _ ?_
    refine W.region_quiet [(0, false), (1, false)] (by kernel_rfl) ?_
    refine W.q (v := .int .i64 ((k + 1 : Nat) : Int)) (hr := (r_add (m := ((k : Nat) : Int)) (n := 1) (z := ((k + 1 : Nat) : Int)) rfl (by kernel_rfl) (by kernel_rfl) (by omega) (by omega))) (h := ?_)
    refine W.mv (v := .int .i64 ((k + 1 : Nat) : Int)) (h := ?_)
    refine W.endF 41 [(0, .agg #[.int .i64 m, .slice A n c]), (1, .pointer (some ⟨b2, 0, none⟩)), (2, .string (⟨#[]⟩ : ByteArray)), (3, .string (s ++ ((((((((itoaB x22.id) ++ (⟨#[58, 32]⟩ : ByteArray)) ++ (itoaB x22.fr)) ++ (⟨#[45]⟩ : ByteArray)) ++ (itoaB x22.to)) ++ (⟨#[32, 115, 105, 122, 101, 32]⟩ : ByteArray)) ++ (itoaB x22.sz)) ++ (⟨#[10]⟩ : ByteArray)))), (5, .pointer (some ⟨b32, 0, none⟩)), (12, .slice A n c), (13, .int .i64 ((n : Nat) : Int)), (14, .int .i64 ((k + 1 : Nat) : Int)), (15, .bool true)] (fun U63 => ?_)
    exact h5 _ _ _ (by omega : (n - (k + 1)) < _) ⟨k + 1, (s ++ ((((((((itoaB x22.id) ++ (⟨#[58, 32]⟩ : ByteArray)) ++ (itoaB x22.fr)) ++ (⟨#[45]⟩ : ByteArray)) ++ (itoaB x22.to)) ++ (⟨#[32, 115, 105, 122, 101, 32]⟩ : ByteArray)) ++ (itoaB x22.sz)) ++ (⟨#[10]⟩ : ByteArray))), (fun iU9 => lk [(0, .agg #[.int .i64 m, .slice A n c]), (1, .pointer (some ⟨b2, 0, none⟩)), (2, .string (⟨#[]⟩ : ByteArray)), (3, .string (s ++ ((((((((itoaB x22.id) ++ (⟨#[58, 32]⟩ : ByteArray)) ++ (itoaB x22.fr)) ++ (⟨#[45]⟩ : ByteArray)) ++ (itoaB x22.to)) ++ (⟨#[32, 115, 105, 122, 101, 32]⟩ : ByteArray)) ++ (itoaB x22.sz)) ++ (⟨#[10]⟩ : ByteArray)))), (5, .pointer (some ⟨b32, 0, none⟩)), (12, .slice A n c), (13, .int .i64 ((n : Nat) : Int)), (14, .int .i64 ((k + 1 : Nat) : Int)), (15, .bool true)] iU9 (U63 iU9)), (by kernel_rfl), rfl, (by omega), (by rw [textN_take hx23, hs9]; unfold lineB; simp only [ByteArray.append_assoc]), (by have h7 := hsz; (try simp only [ByteArray.size_append, size1, sz2, sz6]); have := itoaB_le (n := x22.id) (by omega) (by omega); have := itoaB_le (n := x22.fr) (by omega) (by omega); have := itoaB_le (n := x22.to) (by omega) (by omega); have := itoaB_le (n := x22.sz) (by omega) (by omega); omega), x6, c62⟩
  · refine W.q (v := .bool false) (hr := (r_lss (m := ((k : Nat) : Int)) (n := ((n : Nat) : Int)) rfl (by kernel_rfl) (by kernel_rfl) (decide_eq_false q19))) (h := ?_)
    refine W.endF 41 [(0, .agg #[.int .i64 m, .slice A n c]), (1, .pointer (some ⟨b2, 0, none⟩)), (2, .string (⟨#[]⟩ : ByteArray)), (3, .string s), (12, .slice A n c), (13, .int .i64 ((n : Nat) : Int)), (14, .int .i64 ((k : Nat) : Int)), (15, .bool false)] (fun U64 => ?_)
    refine h6 _ _ ?_
    refine wp_seq_k (fun K10 h10 => ?_)
    refine wp_cond_false (by kernel_rfl) ?_
    refine wp_exit ?_
    refine h3 _ _ ?_
    refine wp_seq_k (fun K11 h11 => ?_)
    refine W.region_quiet [(0, false), (1, false)] (by kernel_rfl) ?_
    refine W.mv (v := .string s) (h := ?_)
    refine W.as (v := .string s) (h := ?_)
    refine W.endF 41 [(0, .agg #[.int .i64 m, .slice A n c]), (1, .pointer (some ⟨b2, 0, none⟩)), (2, .string s), (3, .string s), (12, .slice A n c), (13, .int .i64 ((n : Nat) : Int)), (14, .int .i64 ((k : Nat) : Int)), (15, .bool false)] (fun U65 => ?_)
    refine h11 _ _ ?_
    refine wp_ret ?_
    try simp only [Exit.then]
    refine ret1 (v := .string s) rfl (by kernel_rfl) ?_
    have e9 : s = textN m ps := by rw [hs9, List.take_of_length_le (by omega)]
    exact ⟨by rw [e9], c18⟩

set_option maxRecDepth 100000 in
set_option maxHeartbeats 1000000 in
theorem NetworkText_spec (m : Int) (A : Option Addr) (n c : Nat) (ps : List Pp) (w : World) (ha : Rd w 4 A n (pipesV ps)) (hn : n ≤ 1048576) :
    Calls Tryd.prog 7 #[.agg #[.int .i64 m, .slice A n c]] w fun e w' => e = .returned (.tuple #[.string (NetworkText_v0 m ps), .bool (NetworkText_v1 m ps)]) ∧ Below w.heap.size w w' := by
  have hl := rd_pipes_len ha
  go_enter Tryd.func7, Tryd.ntmps7
  refine wp_seq_k (fun K1 h1 => ?_)
  refine W.region_plain (row := none) [(0, true), (1, false), (2, false)] (by kernel_rfl) ?_
  have s1 := SG.self w none
  refine W.sn (fun b => .pointer (some ⟨b, 0, none⟩)) #[.int .i64 m, .slice A n c] 30 s1 rfl (by kernel_rfl) rfl (fun _ => by kernel_rfl) (fun b2 w3 hb4 k5 x6 s7 => ?_)
  have lo8 : w.heap.size ≤ b2 := by have := ((SG.belowR (Below.refl _ _) s1 (fun kq e => by cases e))).size; omega
  refine W.as (v := .string (⟨#[]⟩ : ByteArray)) (h := ?_)
  refine W.as (v := .bool false) (h := ?_)
  refine W.endF 9 [(0, .agg #[.int .i64 m, .slice A n c]), (1, .pointer (some ⟨b2, 0, none⟩)), (2, .string (⟨#[]⟩ : ByteArray)), (3, .bool false)] (fun U9 => ?_)
  have c10 := (SG.belowR (Below.refl _ _) s7 (fun kq e => by cases e))
  refine h1 _ _ ?_
  refine wp_seq_k (fun K2 h2 => ?_)
  refine wp_seq_k (fun K3 h3 => ?_)
  refine W.region_plain (row := none) [(0, false), (1, true), (2, false)] (by kernel_rfl) ?_
  have s11 := SG.self w3 none
  refine W.q (v := .agg #[.int .i64 m, .slice A n c]) (hr := (r_load2 rfl (by kernel_rfl) (by kernel_rfl) (by kernel_rfl) (sgS (blk_cell (j := 0) x6 (by kernel_rfl)) (by simp)) (sgS (blk_cell (j := 1) x6 (by kernel_rfl)) (by simp)))) (h := ?_)
  refine W.sc (vs := [.agg #[.int .i64 m, .slice A n c]]) rfl rfl (by kernel_rfl) (by kernel_rfl) (by kernel_rfl) rfl (l2Good_any m A n c ps _ (Rd.kept ha (SG.belowR c10 s11 (fun kq e => by cases e))) (by omega)) ?_
  rintro e w13 ⟨rfl, b12⟩
  have s14 := SG.of_below s11 b12
  refine ⟨_, rfl, s14, ?_⟩
  rcases Bool.eq_false_or_eq_true (goodN m ps) with q15 | q15
  · rw [q15]
    refine W.q (v := .bool false) (hr := (r_not (b := true) rfl (by kernel_rfl) rfl)) (h := ?_)
    refine W.endF 9 [(0, .agg #[.int .i64 m, .slice A n c]), (1, .pointer (some ⟨b2, 0, none⟩)), (2, .string (⟨#[]⟩ : ByteArray)), (3, .bool false), (6, .bool false)] (fun U16 => ?_)
    have x6 := SG.blk s14 x6 (by simp)
    have c17 := (SG.belowR c10 s14 (fun kq e => by cases e))
    refine h3 _ _ ?_
    refine wp_cond_false (by kernel_rfl) ?_
    refine wp_skip ?_
    refine h2 _ _ ?_
    refine wp_seq_k (fun K4 h4 => ?_)
    refine W.region_plain (row := none) [(0, false), (1, true), (2, false), (3, false)] (by kernel_rfl) ?_
    have s18 := SG.self w13 none
    refine W.q (v := .agg #[.int .i64 m, .slice A n c]) (hr := (r_load2 rfl (by kernel_rfl) (by kernel_rfl) (by kernel_rfl) (sgS (blk_cell (j := 0) x6 (by kernel_rfl)) (by simp)) (sgS (blk_cell (j := 1) x6 (by kernel_rfl)) (by simp)))) (h := ?_)
    have hsm := good_small q15
    refine W.sc (vs := [.agg #[.int .i64 m, .slice A n c]]) rfl rfl (by kernel_rfl) (by kernel_rfl) (by kernel_rfl) rfl (l2Text_any m A n c ps _ (Rd.kept ha (SG.belowR c17 s18 (fun kq e => by cases e))) hsm) ?_
    rintro e w20 ⟨rfl, b19⟩
    have s21 := SG.of_below s18 b19
    refine ⟨_, rfl, s21, ?_⟩
    refine W.as (v := .string (textN m ps)) (h := ?_)
    refine W.as (v := .bool true) (h := ?_)
    refine W.endF 9 [(0, .agg #[.int .i64 m, .slice A n c]), (1, .pointer (some ⟨b2, 0, none⟩)), (2, .string (textN m ps)), (3, .bool true), (6, .bool false)] (fun U22 => ?_)
    have x6 := SG.blk s21 x6 (by simp)
    have c23 := (SG.belowR c17 s21 (fun kq e => by cases e))
    refine h4 _ _ ?_
    refine wp_ret ?_
    try simp only [Exit.then]
    refine ret2 (v := .string (textN m ps)) (x := .bool true) rfl (by kernel_rfl) (by kernel_rfl) ?_
    obtain ⟨e1, e2⟩ := nt_yes q15
    exact ⟨by rw [e1, e2], c23⟩
  · rw [q15]
    refine W.q (v := .bool true) (hr := (r_not (b := false) rfl (by kernel_rfl) rfl)) (h := ?_)
    refine W.endF 9 [(0, .agg #[.int .i64 m, .slice A n c]), (1, .pointer (some ⟨b2, 0, none⟩)), (2, .string (⟨#[]⟩ : ByteArray)), (3, .bool false), (6, .bool true)] (fun U24 => ?_)
    have x6 := SG.blk s14 x6 (by simp)
    have c25 := (SG.belowR c10 s14 (fun kq e => by cases e))
    refine h3 _ _ ?_
    refine wp_cond_true (by kernel_rfl) ?_
    refine wp_seq_k (fun K5 h5 => ?_)
    refine W.region_quiet [(0, false), (1, false)] (by kernel_rfl) ?_
    refine W.as (v := .string (⟨#[]⟩ : ByteArray)) (h := ?_)
    refine W.as (v := .bool false) (h := ?_)
    refine W.endF 9 [(0, .agg #[.int .i64 m, .slice A n c]), (1, .pointer (some ⟨b2, 0, none⟩)), (2, .string (⟨#[]⟩ : ByteArray)), (3, .bool false), (6, .bool true)] (fun U26 => ?_)
    refine h5 _ _ ?_
    refine wp_ret ?_
    try simp only [Exit.then]
    refine ret2 (v := .string (⟨#[]⟩ : ByteArray)) (x := .bool false) rfl (by kernel_rfl) (by kernel_rfl) ?_
    obtain ⟨e1, e2⟩ := nt_no q15
    exact ⟨by rw [e1, e2], c25⟩

set_option maxRecDepth 100000 in
set_option maxHeartbeats 1000000 in
theorem NetworkText_impl (m : Int) (A : Option Addr) (n c : Nat) (ps : List Pp) (w : World) (ha : Rd w 4 A n (pipesV ps)) (hn : n ≤ 1048576) (htab : Lib.TabIs Tryd.prog w "internal/strconv.uint64pow10" .u64 Lib.pow10Tab) :
    Calls Tryd.prog 9 #[.agg #[.int .i64 m, .slice A n c]] w fun e w' => e = .returned (.tuple #[.string (NetworkText_v0 m ps), .bool (NetworkText_v1 m ps)]) ∧ Below w.heap.size w w' := by
  have hl := rd_pipes_len ha
  go_enter Tryd.func9, Tryd.ntmps9
  refine wp_seq_k (fun K1 h1 => ?_)
  refine W.region_plain (row := none) [(0, true), (1, false), (2, false)] (by kernel_rfl) ?_
  have s1 := SG.self w none
  refine W.sn (fun b => .pointer (some ⟨b, 0, none⟩)) #[.int .i64 m, .slice A n c] 30 s1 rfl (by kernel_rfl) rfl (fun _ => by kernel_rfl) (fun b2 w3 hb4 k5 x6 s7 => ?_)
  have lo8 : w.heap.size ≤ b2 := by have := ((SG.belowR (Below.refl _ _) s1 (fun kq e => by cases e))).size; omega
  refine W.as (v := .string (⟨#[]⟩ : ByteArray)) (h := ?_)
  refine W.as (v := .bool false) (h := ?_)
  refine W.endF 9 [(0, .agg #[.int .i64 m, .slice A n c]), (1, .pointer (some ⟨b2, 0, none⟩)), (2, .string (⟨#[]⟩ : ByteArray)), (3, .bool false)] (fun U9 => ?_)
  have c10 := (SG.belowR (Below.refl _ _) s7 (fun kq e => by cases e))
  refine h1 _ _ ?_
  refine wp_seq_k (fun K2 h2 => ?_)
  refine wp_seq_k (fun K3 h3 => ?_)
  refine W.region_plain (row := none) [(0, false), (1, true), (2, false)] (by kernel_rfl) ?_
  have s11 := SG.self w3 none
  refine W.q (v := .agg #[.int .i64 m, .slice A n c]) (hr := (r_load2 rfl (by kernel_rfl) (by kernel_rfl) (by kernel_rfl) (sgS (blk_cell (j := 0) x6 (by kernel_rfl)) (by simp)) (sgS (blk_cell (j := 1) x6 (by kernel_rfl)) (by simp)))) (h := ?_)
  refine W.sc (vs := [.agg #[.int .i64 m, .slice A n c]]) rfl rfl (by kernel_rfl) (by kernel_rfl) (by kernel_rfl) rfl (IsValid_any m A n c ps _ (Rd.kept ha (SG.belowR c10 s11 (fun kq e => by cases e))) (by omega)) ?_
  rintro e w13 ⟨rfl, b12⟩
  have s14 := SG.of_below s11 b12
  refine ⟨_, rfl, s14, ?_⟩
  rcases Bool.eq_false_or_eq_true (goodN m ps) with q15 | q15
  · rw [q15]
    refine W.q (v := .bool false) (hr := (r_not (b := true) rfl (by kernel_rfl) rfl)) (h := ?_)
    refine W.endF 9 [(0, .agg #[.int .i64 m, .slice A n c]), (1, .pointer (some ⟨b2, 0, none⟩)), (2, .string (⟨#[]⟩ : ByteArray)), (3, .bool false), (6, .bool false)] (fun U16 => ?_)
    have x6 := SG.blk s14 x6 (by simp)
    have c17 := (SG.belowR c10 s14 (fun kq e => by cases e))
    refine h3 _ _ ?_
    refine wp_cond_false (by kernel_rfl) ?_
    refine wp_skip ?_
    refine h2 _ _ ?_
    refine wp_seq_k (fun K4 h4 => ?_)
    refine W.region_plain (row := none) [(0, false), (1, true), (2, false), (3, false)] (by kernel_rfl) ?_
    have s18 := SG.self w13 none
    refine W.q (v := .agg #[.int .i64 m, .slice A n c]) (hr := (r_load2 rfl (by kernel_rfl) (by kernel_rfl) (by kernel_rfl) (sgS (blk_cell (j := 0) x6 (by kernel_rfl)) (by simp)) (sgS (blk_cell (j := 1) x6 (by kernel_rfl)) (by simp)))) (h := ?_)
    have hsm := good_small q15
    refine W.sc (vs := [.agg #[.int .i64 m, .slice A n c]]) rfl rfl (by kernel_rfl) (by kernel_rfl) (by kernel_rfl) rfl (networkText_any m A n c ps _ (Rd.kept ha (SG.belowR c17 s18 (fun kq e => by cases e))) hsm (tab_kept htab (SG.belowR c17 s18 (fun kq e => by cases e)))) ?_
    rintro e w20 ⟨rfl, b19⟩
    have s21 := SG.of_below s18 b19
    refine ⟨_, rfl, s21, ?_⟩
    refine W.as (v := .string (textN m ps)) (h := ?_)
    refine W.as (v := .bool true) (h := ?_)
    refine W.endF 9 [(0, .agg #[.int .i64 m, .slice A n c]), (1, .pointer (some ⟨b2, 0, none⟩)), (2, .string (textN m ps)), (3, .bool true), (6, .bool false)] (fun U22 => ?_)
    have x6 := SG.blk s21 x6 (by simp)
    have c23 := (SG.belowR c17 s21 (fun kq e => by cases e))
    refine h4 _ _ ?_
    refine wp_ret ?_
    try simp only [Exit.then]
    refine ret2 (v := .string (textN m ps)) (x := .bool true) rfl (by kernel_rfl) (by kernel_rfl) ?_
    obtain ⟨e1, e2⟩ := nt_yes q15
    exact ⟨by rw [e1, e2], c23⟩
  · rw [q15]
    refine W.q (v := .bool true) (hr := (r_not (b := false) rfl (by kernel_rfl) rfl)) (h := ?_)
    refine W.endF 9 [(0, .agg #[.int .i64 m, .slice A n c]), (1, .pointer (some ⟨b2, 0, none⟩)), (2, .string (⟨#[]⟩ : ByteArray)), (3, .bool false), (6, .bool true)] (fun U24 => ?_)
    have x6 := SG.blk s14 x6 (by simp)
    have c25 := (SG.belowR c10 s14 (fun kq e => by cases e))
    refine h3 _ _ ?_
    refine wp_cond_true (by kernel_rfl) ?_
    refine wp_seq_k (fun K5 h5 => ?_)
    refine W.region_quiet [(0, false), (1, false)] (by kernel_rfl) ?_
    refine W.as (v := .string (⟨#[]⟩ : ByteArray)) (h := ?_)
    refine W.as (v := .bool false) (h := ?_)
    refine W.endF 9 [(0, .agg #[.int .i64 m, .slice A n c]), (1, .pointer (some ⟨b2, 0, none⟩)), (2, .string (⟨#[]⟩ : ByteArray)), (3, .bool false), (6, .bool true)] (fun U26 => ?_)
    refine h5 _ _ ?_
    refine wp_ret ?_
    try simp only [Exit.then]
    refine ret2 (v := .string (⟨#[]⟩ : ByteArray)) (x := .bool false) rfl (by kernel_rfl) (by kernel_rfl) ?_
    obtain ⟨e1, e2⟩ := nt_no q15
    exact ⟨by rw [e1, e2], c25⟩

end Go.Proofs.YtmfapokolgnnhaaDoor
