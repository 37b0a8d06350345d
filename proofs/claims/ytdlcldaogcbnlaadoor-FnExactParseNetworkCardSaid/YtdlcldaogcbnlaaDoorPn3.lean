/- What the texts behind it build on; conditions: none. -/
import Derived.Test.YtdlcldaogcbnlaaDoorPn2
import Derived.Test.YtdlcldaogcbnlaaDoorProg
import Derived.Lib.SplitLaws
namespace Go.Proofs.YtdlcldaogcbnlaaDoor
open Go.RowKit
set_option linter.unusedVariables false
set_option linter.unusedSimpArgs false
set_option maxRecDepth 100000 in
set_option maxHeartbeats 1000000 in
theorem l2Text_any (m : Int) (A : Option Addr) (n c : Nat) (ps : List Pp) (w : World) (ha : Rd w 4 A n (pipesV ps)) (hsm : smallN m ps) :
    Calls Tryd.prog 46 #[.agg #[.int .i64 m, .slice A n c]] w fun e w' => e = .returned (.string (textN m ps)) ∧ Below w.heap.size w w' := by
  have hl := rd_pipes_len ha
  have hm9 := hsm.1
  have hl9 := hsm.2.1
  go_enter Tryd.func46, Tryd.ntmps46
  refine wp_seq_k (fun K1 h1 => ?_)
  refine W.region_plain (row := none) [(0, true), (1, false)] (by kernel_rfl) ?_
  have s1 := SG.self w none
  refine W.sn (fun b => .pointer (some ⟨b, 0, none⟩)) #[.int .i64 m, .slice A n c] 24 s1 rfl (by kernel_rfl) rfl (fun _ => by kernel_rfl) (fun b2 w3 hb4 k5 x6 s7 => ?_)
  have lo8 : w.heap.size ≤ b2 := by have := ((Sb (Below.refl _ _) s1 nkk)).size; omega
  refine W.as (v := .string (⟨#[]⟩ : ByteArray)) (h := ?_)
  refine W.endF 45 [(0, .agg #[.int .i64 m, .slice A n c]), (1, .pointer (some ⟨b2, 0, none⟩)), (2, .string (⟨#[]⟩ : ByteArray))] (fun U9 => ?_)
  have c10 := (Sb (Below.refl _ _) s7 nkk)
  apply h1
  refine wp_seq_k (fun K2 h2 => ?_)
  refine W.region_plain (row := none) [(0, false), (1, false), (2, true), (3, false), (4, false), (5, false)] (by kernel_rfl) ?_
  have s11 := SG.self w3 none
  refine W.q (v := .pointer (some ⟨b2, 0, none⟩)) (hr := (r_field0 rfl (by kernel_rfl) (by kernel_rfl))) (h := ?_)
  refine W.ld (v := .int .i64 m) (hc := (sgS (blk_cell (j := 0) x6 (by kernel_rfl)) (by simp))) (h := ?_)
  refine W.sc (vs := [.int .i64 m]) rfl rfl (by kernel_rfl) (by kernel_rfl) (by kernel_rfl) rfl (l1Num_any m (by omega) (by omega) _) ?_
  rintro e w13 ⟨rfl, b12⟩
  have s14 := SG.of_below s11 b12
  refine ⟨_, rfl, s14, ?_⟩
  refine W.q (v := .string ((⟨#[110, 111, 100, 101, 115, 32]⟩ : ByteArray) ++ (itoaB m))) (hr := (r_addS (s := (⟨#[110, 111, 100, 101, 115, 32]⟩ : ByteArray)) (r := (itoaB m)) rfl (by kernel_rfl) (by kernel_rfl) (by (try simp only [ByteArray.size_append, size1, sz2, sz6]); have := itoaB_le (n := m) (by omega) (by omega); omega))) (h := ?_)
  refine W.q (v := .string (((⟨#[110, 111, 100, 101, 115, 32]⟩ : ByteArray) ++ (itoaB m)) ++ (⟨#[10]⟩ : ByteArray))) (hr := (r_addS (s := ((⟨#[110, 111, 100, 101, 115, 32]⟩ : ByteArray) ++ (itoaB m))) (r := (⟨#[10]⟩ : ByteArray)) rfl (by kernel_rfl) (by kernel_rfl) (by (try simp only [ByteArray.size_append, size1, sz2, sz6]); have := itoaB_le (n := m) (by omega) (by omega); omega))) (h := ?_)
  refine W.as (v := .string (((⟨#[110, 111, 100, 101, 115, 32]⟩ : ByteArray) ++ (itoaB m)) ++ (⟨#[10]⟩ : ByteArray))) (h := ?_)
  refine W.endF 45 [(0, .agg #[.int .i64 m, .slice A n c]), (1, .pointer (some ⟨b2, 0, none⟩)), (2, .string (⟨#[]⟩ : ByteArray)), (3, .string (((⟨#[110, 111, 100, 101, 115, 32]⟩ : ByteArray) ++ (itoaB m)) ++ (⟨#[10]⟩ : ByteArray)))] (fun U15 => ?_)
  have x6 := Sk s14 x6 (by simp)
  have c16 := (Sb c10 s14 nkk)
  apply h2
  refine wp_seq_k (fun K3 h3 => ?_)
  refine wp_seq_k (fun K4 h4 => ?_)
  refine W.region_quiet [(0, false)] (by kernel_rfl) ?_
  refine W.as (v := .int .i64 0) (h := ?_)
  refine W.endF 45 [(0, .agg #[.int .i64 m, .slice A n c]), (1, .pointer (some ⟨b2, 0, none⟩)), (2, .string (⟨#[]⟩ : ByteArray)), (3, .string (((⟨#[110, 111, 100, 101, 115, 32]⟩ : ByteArray) ++ (itoaB m)) ++ (⟨#[10]⟩ : ByteArray))), (4, .int .i64 0)] (fun U17 => ?_)
  apply h4
  refine wp_block ?_
  refine loopK (fun am0 aa0 wl0 => ∃ (k : Nat) (s : ByteArray) (U0 : Nat → Value), aa0 = ⟨(fr U0 [(0, .agg #[.int .i64 m, .slice A n c]), (1, .pointer (some ⟨b2, 0, none⟩)), (2, .string (⟨#[]⟩ : ByteArray)), (3, .string s), (4, .int .i64 ((k : Nat) : Int))] 45 0).toArray, []⟩ ∧ (am0 = n - k) ∧ (k ≤ n) ∧ (s = textN m (ps.take k)) ∧ (s.size ≤ 100 + 200 * k) ∧ (wl0.heap[b2]? = some (.cells #[.int .i64 m, .slice A n c] 24 (0, 0))) ∧ (Below w.heap.size w wl0)) (n - 0) ?_ ?_
  · exact ⟨0, (((⟨#[110, 111, 100, 101, 115, 32]⟩ : ByteArray) ++ (itoaB m)) ++ (⟨#[10]⟩ : ByteArray)), (fun iU9 => lk [(0, .agg #[.int .i64 m, .slice A n c]), (1, .pointer (some ⟨b2, 0, none⟩)), (2, .string (⟨#[]⟩ : ByteArray)), (3, .string (((⟨#[110, 111, 100, 101, 115, 32]⟩ : ByteArray) ++ (itoaB m)) ++ (⟨#[10]⟩ : ByteArray))), (4, .int .i64 0)] iU9 (U17 iU9)), (by kernel_rfl), rfl, (Nat.zero_le _), rfl, (by (try simp only [ByteArray.size_append, size1, sz2, sz6]); have := itoaB_le (n := m) (by omega) (by omega); omega), x6, c16⟩
  rintro am0 aa0 wl0 K5 h5 ⟨k, s, U0, rfl, rfl, hk, hs9, hsz, x6, c18⟩
  refine wp_seq_k (fun K6 h6 => ?_)
  refine wp_seq_k (fun K7 h7 => ?_)
  refine W.region_quiet [(0, false), (1, false), (2, false), (3, false), (4, false)] (by kernel_rfl) ?_
  refine W.mv (v := .int .i64 ((k : Nat) : Int)) (h := ?_)
  refine W.q (v := .pointer (some ⟨b2, 1, none⟩)) (hr := (r_field (k := 1) rfl (by kernel_rfl) (by kernel_rfl))) (h := ?_)
  refine W.ld (v := .slice A n c) (hc := (eqS (blk_cell (j := 1) x6 (by kernel_rfl)))) (h := ?_)
  refine W.q (v := .int .i64 ((n : Nat) : Int)) (hr := (r_len (A := A) (n := n) (c := c) rfl (by kernel_rfl) (by kernel_rfl))) (h := ?_)
  by_cases q19 : (((k : Nat) : Int) : Int) < (((n : Nat) : Int) : Int)
  · refine W.q (v := .bool true) (hr := (r_lss (m := ((k : Nat) : Int)) (n := ((n : Nat) : Int)) rfl (by kernel_rfl) (by kernel_rfl) (dt q19))) (h := ?_)
    refine W.endF 45 [(0, .agg #[.int .i64 m, .slice A n c]), (1, .pointer (some ⟨b2, 0, none⟩)), (2, .string (⟨#[]⟩ : ByteArray)), (3, .string s), (4, .int .i64 ((k : Nat) : Int)), (15, .bool true)] (fun U20 => ?_)
    apply h7
    refine wp_cond_true (by kernel_rfl) ?_
    apply wp_skip
    apply h6
    refine wp_seq_k (fun K8 h8 => ?_)
    refine wp_block ?_
    refine wp_seq_k (fun K9 h9 => ?_)
    refine W.region_plain (row := none) [(0, false), (1, false), (2, false), (3, false), (4, false), (5, true), (6, true)] (by kernel_rfl) ?_
    have s21 := SG.self wl0 none
    refine W.q (v := .pointer (some ⟨b2, 1, none⟩)) (hr := (r_field (k := 1) rfl (by kernel_rfl) (by kernel_rfl))) (h := ?_)
    refine W.ld (v := .slice A n c) (hc := (sgS (blk_cell (j := 1) x6 (by kernel_rfl)) (by simp))) (h := ?_)
    refine W.mv (v := .int .i64 ((k : Nat) : Int)) (h := ?_)
    obtain ⟨x22, hx23⟩ := get_of (zs := ps) (k := k) (by have := hl; omega)
    have hpb := hsm.2.2 _ (List.mem_of_getElem? hx23)
    obtain ⟨b24, o25, hA26, hb27, hc28, hc29, hc30, hc31⟩ := Rd.elPipe ha hx23
    refine W.q (v := .pointer (some ⟨b24, o25 + k * 4, none⟩)) (hr := (r_idx (n := n) (c := c) (k := k) rfl (by kernel_rfl) hA26 (by kernel_rfl) (by kernel_rfl) (by have := hl; omega))) (h := ?_)
    refine W.q (v := .agg #[.int .i64 x22.id, .int .i64 x22.fr, .int .i64 x22.to, .int .i64 x22.sz]) (hr := (r_load4 rfl (by kernel_rfl) (by kernel_rfl) (by kernel_rfl) (sgS (later c18 hc28) (by simp)) (sgS (later c18 hc29) (by simp)) (sgS (later c18 hc30) (by simp)) (sgS (later c18 hc31) (by simp)))) (h := ?_)
    refine W.sn (fun b => .pointer (some ⟨b, 0, none⟩)) #[.int .i64 0, .int .i64 0, .int .i64 0, .int .i64 0] 38 s21 rfl (by kernel_rfl) rfl (fun _ => by kernel_rfl) (fun b32 w33 hb34 k35 x36 s37 => ?_)
    have lo38 : w.heap.size ≤ b32 := by have := ((Sb c18 s21 nkk)).size; omega
    have ne39 : b2 ≠ b32 := by have := blk_lt x6; have := (s21).size; omega
    refine W.ss (v := .agg #[.int .i64 x22.id, .int .i64 x22.fr, .int .i64 x22.to, .int .i64 x22.sz]) (j := 0) (news := [.int .i64 x22.id, .int .i64 x22.fr, .int .i64 x22.to, .int .i64 x22.sz]) (cs' := #[.int .i64 x22.id, .int .i64 x22.fr, .int .i64 x22.to, .int .i64 x22.sz]) s37 rfl (by kernel_rfl) rfl rfl (by kernel_rfl) (by kernel_rfl) x36 (by kernel_rfl) (by kernel_rfl) (by simp) (by kernel_rfl) (by kernel_rfl) (.inr (by have := (s21).size; have := hb34; omega)) (fun w40 g41 x42 s43 => ?_)
    refine W.endF 45 [(0, .agg #[.int .i64 m, .slice A n c]), (1, .pointer (some ⟨b2, 0, none⟩)), (2, .string (⟨#[]⟩ : ByteArray)), (3, .string s), (4, .int .i64 ((k : Nat) : Int)), (5, .pointer (some ⟨b32, 0, none⟩)), (15, .bool true)] (fun U44 => ?_)
    have x6 := Sk s43 x6 (by simp)
    have c45 := (Sb c18 s43 nkk)
    apply h9
    refine W.region_sch (row := none) (Sch.of [(0, false), (1, false), (2, false), (6, false), (7, false), (11, false), (12, false), (16, false), (17, false), (3, true), (4, false), (5, false), (8, true), (9, false), (10, false), (13, true), (14, false), (15, false), (18, true), (19, false), (20, false), (21, false)]) (by kernel_rfl) (by kernel_rfl) (fun _ d _ _ _ h => by cases d <;> exact h) (by kernel_rfl) (fun w46 e47 s48 => ?_)
    refine W.mv (v := .string s) (h := ?_)
    refine W.q (v := .pointer (some ⟨b32, 0, none⟩)) (hr := (r_field0 rfl (by kernel_rfl) (by kernel_rfl))) (h := ?_)
    refine W.ld (v := .int .i64 x22.id) (hc := (sgS (blk_cell (j := 0) x42 (by kernel_rfl)) (by simp))) (h := ?_)
    refine W.q (v := .pointer (some ⟨b32, 1, none⟩)) (hr := (r_field (k := 1) rfl (by kernel_rfl) (by kernel_rfl))) (h := ?_)
    refine W.ld (v := .int .i64 x22.fr) (hc := (sgS (blk_cell (j := 1) x42 (by kernel_rfl)) (by simp))) (h := ?_)
    refine W.q (v := .pointer (some ⟨b32, 2, none⟩)) (hr := (r_field (k := 2) rfl (by kernel_rfl) (by kernel_rfl))) (h := ?_)
    refine W.ld (v := .int .i64 x22.to) (hc := (sgS (blk_cell (j := 2) x42 (by kernel_rfl)) (by simp))) (h := ?_)
    refine W.q (v := .pointer (some ⟨b32, 3, none⟩)) (hr := (r_field (k := 3) rfl (by kernel_rfl) (by kernel_rfl))) (h := ?_)
    refine W.ld (v := .int .i64 x22.sz) (hc := (sgS (blk_cell (j := 3) x42 (by kernel_rfl)) (by simp))) (h := ?_)
    refine W.sc (vs := [.int .i64 x22.id]) rfl rfl (by kernel_rfl) (by kernel_rfl) (by kernel_rfl) rfl (l1Num_any x22.id (by omega) (by omega) _) ?_
    rintro e w50 ⟨rfl, b49⟩
    have s51 := SG.of_below s48 b49
    refine ⟨_, rfl, s51, ?_⟩
    refine W.q (v := .string (s ++ (itoaB x22.id))) (hr := (r_addS (s := s) (r := (itoaB x22.id)) rfl (by kernel_rfl) (by kernel_rfl) (by (try simp only [ByteArray.size_append, size1, sz2, sz6]); have := itoaB_le (n := x22.id) (by omega) (by omega); omega))) (h := ?_)
    refine W.q (v := .string ((s ++ (itoaB x22.id)) ++ (⟨#[58, 32]⟩ : ByteArray))) (hr := (r_addS (s := (s ++ (itoaB x22.id))) (r := (⟨#[58, 32]⟩ : ByteArray)) rfl (by kernel_rfl) (by kernel_rfl) (by (try simp only [ByteArray.size_append, size1, sz2, sz6]); have := itoaB_le (n := x22.id) (by omega) (by omega); omega))) (h := ?_)
    refine W.sc (vs := [.int .i64 x22.fr]) rfl rfl (by kernel_rfl) (by kernel_rfl) (by kernel_rfl) rfl (l1Num_any x22.fr (by omega) (by omega) _) ?_
    rintro e w53 ⟨rfl, b52⟩
    have s54 := SG.of_below s51 b52
    refine ⟨_, rfl, s54, ?_⟩
    refine W.q (v := .string (((s ++ (itoaB x22.id)) ++ (⟨#[58, 32]⟩ : ByteArray)) ++ (itoaB x22.fr))) (hr := (r_addS (s := ((s ++ (itoaB x22.id)) ++ (⟨#[58, 32]⟩ : ByteArray))) (r := (itoaB x22.fr)) rfl (by kernel_rfl) (by kernel_rfl) (by (try simp only [ByteArray.size_append, size1, sz2, sz6]); have := itoaB_le (n := x22.fr) (by omega) (by omega); have := itoaB_le (n := x22.id) (by omega) (by omega); omega))) (h := ?_)
    refine W.q (v := .string ((((s ++ (itoaB x22.id)) ++ (⟨#[58, 32]⟩ : ByteArray)) ++ (itoaB x22.fr)) ++ (⟨#[45]⟩ : ByteArray))) (hr := (r_addS (s := (((s ++ (itoaB x22.id)) ++ (⟨#[58, 32]⟩ : ByteArray)) ++ (itoaB x22.fr))) (r := (⟨#[45]⟩ : ByteArray)) rfl (by kernel_rfl) (by kernel_rfl) (by (try simp only [ByteArray.size_append, size1, sz2, sz6]); have := itoaB_le (n := x22.fr) (by omega) (by omega); have := itoaB_le (n := x22.id) (by omega) (by omega); omega))) (h := ?_)
    refine W.sc (vs := [.int .i64 x22.to]) rfl rfl (by kernel_rfl) (by kernel_rfl) (by kernel_rfl) rfl (l1Num_any x22.to (by omega) (by omega) _) ?_
    rintro e w56 ⟨rfl, b55⟩
    have s57 := SG.of_below s54 b55
    refine ⟨_, rfl, s57, ?_⟩
    refine W.q (v := .string (((((s ++ (itoaB x22.id)) ++ (⟨#[58, 32]⟩ : ByteArray)) ++ (itoaB x22.fr)) ++ (⟨#[45]⟩ : ByteArray)) ++ (itoaB x22.to))) (hr := (r_addS (s := ((((s ++ (itoaB x22.id)) ++ (⟨#[58, 32]⟩ : ByteArray)) ++ (itoaB x22.fr)) ++ (⟨#[45]⟩ : ByteArray))) (r := (itoaB x22.to)) rfl (by kernel_rfl) (by kernel_rfl) (by (try simp only [ByteArray.size_append, size1, sz2, sz6]); have := itoaB_le (n := x22.fr) (by omega) (by omega); have := itoaB_le (n := x22.id) (by omega) (by omega); have := itoaB_le (n := x22.to) (by omega) (by omega); omega))) (h := ?_)
    refine W.q (v := .string ((((((s ++ (itoaB x22.id)) ++ (⟨#[58, 32]⟩ : ByteArray)) ++ (itoaB x22.fr)) ++ (⟨#[45]⟩ : ByteArray)) ++ (itoaB x22.to)) ++ (⟨#[32, 115, 105, 122, 101, 32]⟩ : ByteArray))) (hr := (r_addS (s := (((((s ++ (itoaB x22.id)) ++ (⟨#[58, 32]⟩ : ByteArray)) ++ (itoaB x22.fr)) ++ (⟨#[45]⟩ : ByteArray)) ++ (itoaB x22.to))) (r := (⟨#[32, 115, 105, 122, 101, 32]⟩ : ByteArray)) rfl (by kernel_rfl) (by kernel_rfl) (by (try simp only [ByteArray.size_append, size1, sz2, sz6]); have := itoaB_le (n := x22.fr) (by omega) (by omega); have := itoaB_le (n := x22.id) (by omega) (by omega); have := itoaB_le (n := x22.to) (by omega) (by omega); omega))) (h := ?_)
    refine W.sc (vs := [.int .i64 x22.sz]) rfl rfl (by kernel_rfl) (by kernel_rfl) (by kernel_rfl) rfl (l1Num_any x22.sz (by omega) (by omega) _) ?_
    rintro e w59 ⟨rfl, b58⟩
    have s60 := SG.of_below s57 b58
    refine ⟨_, rfl, s60, ?_⟩
    refine W.q (v := .string (((((((s ++ (itoaB x22.id)) ++ (⟨#[58, 32]⟩ : ByteArray)) ++ (itoaB x22.fr)) ++ (⟨#[45]⟩ : ByteArray)) ++ (itoaB x22.to)) ++ (⟨#[32, 115, 105, 122, 101, 32]⟩ : ByteArray)) ++ (itoaB x22.sz))) (hr := (r_addS (s := ((((((s ++ (itoaB x22.id)) ++ (⟨#[58, 32]⟩ : ByteArray)) ++ (itoaB x22.fr)) ++ (⟨#[45]⟩ : ByteArray)) ++ (itoaB x22.to)) ++ (⟨#[32, 115, 105, 122, 101, 32]⟩ : ByteArray))) (r := (itoaB x22.sz)) rfl (by kernel_rfl) (by kernel_rfl) (by (try simp only [ByteArray.size_append, size1, sz2, sz6]); have := itoaB_le (n := x22.fr) (by omega) (by omega); have := itoaB_le (n := x22.id) (by omega) (by omega); have := itoaB_le (n := x22.sz) (by omega) (by omega); have := itoaB_le (n := x22.to) (by omega) (by omega); omega))) (h := ?_)
    refine W.q (v := .string ((((((((s ++ (itoaB x22.id)) ++ (⟨#[58, 32]⟩ : ByteArray)) ++ (itoaB x22.fr)) ++ (⟨#[45]⟩ : ByteArray)) ++ (itoaB x22.to)) ++ (⟨#[32, 115, 105, 122, 101, 32]⟩ : ByteArray)) ++ (itoaB x22.sz)) ++ (⟨#[10]⟩ : ByteArray))) (hr := (r_addS (s := (((((((s ++ (itoaB x22.id)) ++ (⟨#[58, 32]⟩ : ByteArray)) ++ (itoaB x22.fr)) ++ (⟨#[45]⟩ : ByteArray)) ++ (itoaB x22.to)) ++ (⟨#[32, 115, 105, 122, 101, 32]⟩ : ByteArray)) ++ (itoaB x22.sz))) (r := (⟨#[10]⟩ : ByteArray)) rfl (by kernel_rfl) (by kernel_rfl) (by (try simp only [ByteArray.size_append, size1, sz2, sz6]); have := itoaB_le (n := x22.fr) (by omega) (by omega); have := itoaB_le (n := x22.id) (by omega) (by omega); have := itoaB_le (n := x22.sz) (by omega) (by omega); have := itoaB_le (n := x22.to) (by omega) (by omega); omega))) (h := ?_)
    refine W.as (v := .string ((((((((s ++ (itoaB x22.id)) ++ (⟨#[58, 32]⟩ : ByteArray)) ++ (itoaB x22.fr)) ++ (⟨#[45]⟩ : ByteArray)) ++ (itoaB x22.to)) ++ (⟨#[32, 115, 105, 122, 101, 32]⟩ : ByteArray)) ++ (itoaB x22.sz)) ++ (⟨#[10]⟩ : ByteArray))) (h := ?_)
    refine W.endF 45 [(0, .agg #[.int .i64 m, .slice A n c]), (1, .pointer (some ⟨b2, 0, none⟩)), (2, .string (⟨#[]⟩ : ByteArray)), (3, .string ((((((((s ++ (itoaB x22.id)) ++ (⟨#[58, 32]⟩ : ByteArray)) ++ (itoaB x22.fr)) ++ (⟨#[45]⟩ : ByteArray)) ++ (itoaB x22.to)) ++ (⟨#[32, 115, 105, 122, 101, 32]⟩ : ByteArray)) ++ (itoaB x22.sz)) ++ (⟨#[10]⟩ : ByteArray))), (4, .int .i64 ((k : Nat) : Int)), (5, .pointer (some ⟨b32, 0, none⟩)), (15, .bool true)] (fun U61 => ?_)
    have x6 := Sk s60 x6 (by simp)
    have x42 := Sk s60 x42 (by simp)
    have c62 := (Sb c45 s60 nkk)
    apply h8
    refine W.region_quiet [(0, false), (1, false), (2, false)] (by kernel_rfl) ?_
    refine W.mv (v := .int .i64 ((k : Nat) : Int)) (h := ?_)
    refine W.q (v := .int .i64 ((k + 1 : Nat) : Int)) (hr := (r_add (m := ((k : Nat) : Int)) (n := 1) (z := ((k + 1 : Nat) : Int)) rfl (by kernel_rfl) (by kernel_rfl) (by omega) (by omega))) (h := ?_)
    refine W.as (v := .int .i64 ((k + 1 : Nat) : Int)) (h := ?_)
    refine W.endF 45 [(0, .agg #[.int .i64 m, .slice A n c]), (1, .pointer (some ⟨b2, 0, none⟩)), (2, .string (⟨#[]⟩ : ByteArray)), (3, .string ((((((((s ++ (itoaB x22.id)) ++ (⟨#[58, 32]⟩ : ByteArray)) ++ (itoaB x22.fr)) ++ (⟨#[45]⟩ : ByteArray)) ++ (itoaB x22.to)) ++ (⟨#[32, 115, 105, 122, 101, 32]⟩ : ByteArray)) ++ (itoaB x22.sz)) ++ (⟨#[10]⟩ : ByteArray))), (4, .int .i64 ((k + 1 : Nat) : Int)), (5, .pointer (some ⟨b32, 0, none⟩)), (15, .bool true)] (fun U63 => ?_)
    exact h5 _ _ _ (by omega : (n - (k + 1)) < _) ⟨k + 1, ((((((((s ++ (itoaB x22.id)) ++ (⟨#[58, 32]⟩ : ByteArray)) ++ (itoaB x22.fr)) ++ (⟨#[45]⟩ : ByteArray)) ++ (itoaB x22.to)) ++ (⟨#[32, 115, 105, 122, 101, 32]⟩ : ByteArray)) ++ (itoaB x22.sz)) ++ (⟨#[10]⟩ : ByteArray)), (fun iU9 => lk [(0, .agg #[.int .i64 m, .slice A n c]), (1, .pointer (some ⟨b2, 0, none⟩)), (2, .string (⟨#[]⟩ : ByteArray)), (3, .string ((((((((s ++ (itoaB x22.id)) ++ (⟨#[58, 32]⟩ : ByteArray)) ++ (itoaB x22.fr)) ++ (⟨#[45]⟩ : ByteArray)) ++ (itoaB x22.to)) ++ (⟨#[32, 115, 105, 122, 101, 32]⟩ : ByteArray)) ++ (itoaB x22.sz)) ++ (⟨#[10]⟩ : ByteArray))), (4, .int .i64 ((k + 1 : Nat) : Int)), (5, .pointer (some ⟨b32, 0, none⟩)), (15, .bool true)] iU9 (U63 iU9)), (by kernel_rfl), rfl, (by omega), (by rw [textN_take hx23, hs9]; unfold lineB; simp only [ByteArray.append_assoc]), (by have h7 := hsz; (try simp only [ByteArray.size_append, size1, sz2, sz6]); have := itoaB_le (n := x22.id) (by omega) (by omega); have := itoaB_le (n := x22.fr) (by omega) (by omega); have := itoaB_le (n := x22.to) (by omega) (by omega); have := itoaB_le (n := x22.sz) (by omega) (by omega); omega), x6, c62⟩
  · refine W.q (v := .bool false) (hr := (r_lss (m := ((k : Nat) : Int)) (n := ((n : Nat) : Int)) rfl (by kernel_rfl) (by kernel_rfl) (df q19))) (h := ?_)
    refine W.endF 45 [(0, .agg #[.int .i64 m, .slice A n c]), (1, .pointer (some ⟨b2, 0, none⟩)), (2, .string (⟨#[]⟩ : ByteArray)), (3, .string s), (4, .int .i64 ((k : Nat) : Int)), (15, .bool false)] (fun U64 => ?_)
    apply h7
    refine wp_cond_false (by kernel_rfl) ?_
    refine wp_exit ?_
    apply h3
    refine wp_seq_k (fun K10 h10 => ?_)
    refine W.region_quiet [(0, false), (1, false)] (by kernel_rfl) ?_
    refine W.mv (v := .string s) (h := ?_)
    refine W.as (v := .string s) (h := ?_)
    refine W.endF 45 [(0, .agg #[.int .i64 m, .slice A n c]), (1, .pointer (some ⟨b2, 0, none⟩)), (2, .string s), (3, .string s), (4, .int .i64 ((k : Nat) : Int)), (15, .bool false)] (fun U65 => ?_)
    apply h10
    refine wp_ret ?_
    try simp only [Exit.then]
    refine ret1 (v := .string s) rfl (by kernel_rfl) ?_
    have e9 : s = textN m ps := by rw [hs9, List.take_of_length_le (by omega)]
    exact ⟨by rw [e9], c18⟩
set_option maxRecDepth 100000 in
set_option maxHeartbeats 1000000 in
theorem networkText_any (m : Int) (A : Option Addr) (n c : Nat) (ps : List Pp) (w : World) (ha : Rd w 4 A n (pipesV ps)) (hsm : smallN m ps) (htab : Lib.TabIs Tryd.prog w "internal/strconv.uint64pow10" .u64 Lib.pow10Tab) :
    Calls Tryd.prog 40 #[.agg #[.int .i64 m, .slice A n c]] w fun e w' => e = .returned (.string (textN m ps)) ∧ Below w.heap.size w w' := by
  have hl := rd_pipes_len ha
  have hm9 := hsm.1
  have hl9 := hsm.2.1
  go_enter Tryd.func40, Tryd.ntmps40
  refine wp_seq_k (fun K1 h1 => ?_)
  refine W.region_plain (row := none) [(0, true), (1, false)] (by kernel_rfl) ?_
  have s1 := SG.self w none
  refine W.sn (fun b => .pointer (some ⟨b, 0, none⟩)) #[.int .i64 m, .slice A n c] 24 s1 rfl (by kernel_rfl) rfl (fun _ => by kernel_rfl) (fun b2 w3 hb4 k5 x6 s7 => ?_)
  have lo8 : w.heap.size ≤ b2 := by have := ((Sb (Below.refl _ _) s1 nkk)).size; omega
  refine W.as (v := .string (⟨#[]⟩ : ByteArray)) (h := ?_)
  refine W.endF 41 [(0, .agg #[.int .i64 m, .slice A n c]), (1, .pointer (some ⟨b2, 0, none⟩)), (2, .string (⟨#[]⟩ : ByteArray))] (fun U9 => ?_)
  have c10 := (Sb (Below.refl _ _) s7 nkk)
  apply h1
  refine wp_seq_k (fun K2 h2 => ?_)
  refine W.region_plain (row := none) [(0, false), (1, false), (2, true), (3, false), (4, false), (5, false)] (by kernel_rfl) ?_
  have s11 := SG.self w3 none
  refine W.q (v := .pointer (some ⟨b2, 0, none⟩)) (hr := (r_field0 rfl (by kernel_rfl) (by kernel_rfl))) (h := ?_)
  refine W.ld (v := .int .i64 m) (hc := (sgS (blk_cell (j := 0) x6 (by kernel_rfl)) (by simp))) (h := ?_)
  refine W.sc (vs := [.int .i64 m]) rfl rfl (by kernel_rfl) (by kernel_rfl) (by kernel_rfl) rfl (itoa_lib m (by omega) (by omega) _ (tab_kept htab (Sb c10 s11 nkk))) ?_
  rintro e w13 ⟨rfl, b12⟩
  have s14 := SG.of_below s11 b12
  refine ⟨_, rfl, s14, ?_⟩
  refine W.q (v := .string ((⟨#[110, 111, 100, 101, 115, 32]⟩ : ByteArray) ++ (itoaB m))) (hr := (r_addS (s := (⟨#[110, 111, 100, 101, 115, 32]⟩ : ByteArray)) (r := (itoaB m)) rfl (by kernel_rfl) (by kernel_rfl) (by (try simp only [ByteArray.size_append, size1, sz2, sz6]); have := itoaB_le (n := m) (by omega) (by omega); omega))) (h := ?_)
  refine W.q (v := .string (((⟨#[110, 111, 100, 101, 115, 32]⟩ : ByteArray) ++ (itoaB m)) ++ (⟨#[10]⟩ : ByteArray))) (hr := (r_addS (s := ((⟨#[110, 111, 100, 101, 115, 32]⟩ : ByteArray) ++ (itoaB m))) (r := (⟨#[10]⟩ : ByteArray)) rfl (by kernel_rfl) (by kernel_rfl) (by (try simp only [ByteArray.size_append, size1, sz2, sz6]); have := itoaB_le (n := m) (by omega) (by omega); omega))) (h := ?_)
  refine W.as (v := .string (((⟨#[110, 111, 100, 101, 115, 32]⟩ : ByteArray) ++ (itoaB m)) ++ (⟨#[10]⟩ : ByteArray))) (h := ?_)
  refine W.endF 41 [(0, .agg #[.int .i64 m, .slice A n c]), (1, .pointer (some ⟨b2, 0, none⟩)), (2, .string (⟨#[]⟩ : ByteArray)), (3, .string (((⟨#[110, 111, 100, 101, 115, 32]⟩ : ByteArray) ++ (itoaB m)) ++ (⟨#[10]⟩ : ByteArray)))] (fun U15 => ?_)
  have x6 := Sk s14 x6 (by simp)
  have c16 := (Sb c10 s14 nkk)
  apply h2
  refine wp_seq_k (fun K3 h3 => ?_)
  refine wp_seq_k (fun K4 h4 => ?_)
  refine W.region_quiet [(0, false), (1, false), (2, false), (3, false)] (by kernel_rfl) ?_
  refine W.q (v := .pointer (some ⟨b2, 1, none⟩)) (hr := (r_field (k := 1) rfl (by kernel_rfl) (by kernel_rfl))) (h := ?_)
  refine W.ld (v := .slice A n c) (hc := (eqS (blk_cell (j := 1) x6 (by kernel_rfl)))) (h := ?_)
  refine W.q (v := .int .i64 ((n : Nat) : Int)) (hr := (r_len (A := A) (n := n) (c := c) rfl (by kernel_rfl) (by kernel_rfl))) (h := ?_)
  refine W.mv (v := .int .i64 0) (h := ?_)
  refine W.endF 41 [(0, .agg #[.int .i64 m, .slice A n c]), (1, .pointer (some ⟨b2, 0, none⟩)), (2, .string (⟨#[]⟩ : ByteArray)), (3, .string (((⟨#[110, 111, 100, 101, 115, 32]⟩ : ByteArray) ++ (itoaB m)) ++ (⟨#[10]⟩ : ByteArray))), (12, .slice A n c), (13, .int .i64 ((n : Nat) : Int)), (14, .int .i64 0)] (fun U17 => ?_)
  apply h4
  refine wp_block ?_
  refine loopK (fun am0 aa0 wl0 => ∃ (k : Nat) (s : ByteArray) (U0 : Nat → Value), aa0 = ⟨(fr U0 [(0, .agg #[.int .i64 m, .slice A n c]), (1, .pointer (some ⟨b2, 0, none⟩)), (2, .string (⟨#[]⟩ : ByteArray)), (3, .string s), (12, .slice A n c), (13, .int .i64 ((n : Nat) : Int)), (14, .int .i64 ((k : Nat) : Int))] 41 0).toArray, []⟩ ∧ (am0 = n - k) ∧ (k ≤ n) ∧ (s = textN m (ps.take k)) ∧ (s.size ≤ 100 + 200 * k) ∧ (wl0.heap[b2]? = some (.cells #[.int .i64 m, .slice A n c] 24 (0, 0))) ∧ (Below w.heap.size w wl0)) (n - 0) ?_ ?_
  · exact ⟨0, (((⟨#[110, 111, 100, 101, 115, 32]⟩ : ByteArray) ++ (itoaB m)) ++ (⟨#[10]⟩ : ByteArray)), (fun iU9 => lk [(0, .agg #[.int .i64 m, .slice A n c]), (1, .pointer (some ⟨b2, 0, none⟩)), (2, .string (⟨#[]⟩ : ByteArray)), (3, .string (((⟨#[110, 111, 100, 101, 115, 32]⟩ : ByteArray) ++ (itoaB m)) ++ (⟨#[10]⟩ : ByteArray))), (12, .slice A n c), (13, .int .i64 ((n : Nat) : Int)), (14, .int .i64 0)] iU9 (U17 iU9)), (by kernel_rfl), rfl, (Nat.zero_le _), rfl, (by (try simp only [ByteArray.size_append, size1, sz2, sz6]); have := itoaB_le (n := m) (by omega) (by omega); omega), x6, c16⟩
  rintro am0 aa0 wl0 K5 h5 ⟨k, s, U0, rfl, rfl, hk, hs9, hsz, x6, c18⟩
  refine wp_seq_k (fun K6 h6 => ?_)
  refine W.region_quiet [(0, false)] (by kernel_rfl) ?_
  by_cases q19 : (((k : Nat) : Int) : Int) < (((n : Nat) : Int) : Int)
  · refine W.q (v := .bool true) (hr := (r_lss (m := ((k : Nat) : Int)) (n := ((n : Nat) : Int)) rfl (by kernel_rfl) (by kernel_rfl) (dt q19))) (h := ?_)
    refine W.endF 41 [(0, .agg #[.int .i64 m, .slice A n c]), (1, .pointer (some ⟨b2, 0, none⟩)), (2, .string (⟨#[]⟩ : ByteArray)), (3, .string s), (12, .slice A n c), (13, .int .i64 ((n : Nat) : Int)), (14, .int .i64 ((k : Nat) : Int)), (15, .bool true)] (fun U20 => ?_)
    apply h6
    refine wp_seq_k (fun K7 h7 => ?_)
    refine wp_cond_true (by kernel_rfl) ?_
    apply wp_skip
    apply h7
    refine wp_seq_k (fun K8 h8 => ?_)
    refine wp_block ?_
    refine wp_seq_k (fun K9 h9 => ?_)
    refine W.region_plain (row := none) [(0, false), (1, false), (2, true), (3, true)] (by kernel_rfl) ?_
    have s21 := SG.self wl0 none
    obtain ⟨x22, hx23⟩ := get_of (zs := ps) (k := k) (by have := hl; omega)
    have hpb := hsm.2.2 _ (List.mem_of_getElem? hx23)
    obtain ⟨b24, o25, hA26, hb27, hc28, hc29, hc30, hc31⟩ := Rd.elPipe ha hx23
    refine W.q (v := .pointer (some ⟨b24, o25 + k * 4, none⟩)) (hr := (r_idx (n := n) (c := c) (k := k) rfl (by kernel_rfl) hA26 (by kernel_rfl) (by kernel_rfl) (by have := hl; omega))) (h := ?_)
    refine W.q (v := .agg #[.int .i64 x22.id, .int .i64 x22.fr, .int .i64 x22.to, .int .i64 x22.sz]) (hr := (r_load4 rfl (by kernel_rfl) (by kernel_rfl) (by kernel_rfl) (sgS (later c18 hc28) (by simp)) (sgS (later c18 hc29) (by simp)) (sgS (later c18 hc30) (by simp)) (sgS (later c18 hc31) (by simp)))) (h := ?_)
    refine W.sn (fun b => .pointer (some ⟨b, 0, none⟩)) #[.int .i64 0, .int .i64 0, .int .i64 0, .int .i64 0] 38 s21 rfl (by kernel_rfl) rfl (fun _ => by kernel_rfl) (fun b32 w33 hb34 k35 x36 s37 => ?_)
    have lo38 : w.heap.size ≤ b32 := by have := ((Sb c18 s21 nkk)).size; omega
    have ne39 : b2 ≠ b32 := by have := blk_lt x6; have := (s21).size; omega
    refine W.ss (v := .agg #[.int .i64 x22.id, .int .i64 x22.fr, .int .i64 x22.to, .int .i64 x22.sz]) (j := 0) (news := [.int .i64 x22.id, .int .i64 x22.fr, .int .i64 x22.to, .int .i64 x22.sz]) (cs' := #[.int .i64 x22.id, .int .i64 x22.fr, .int .i64 x22.to, .int .i64 x22.sz]) s37 rfl (by kernel_rfl) rfl rfl (by kernel_rfl) (by kernel_rfl) x36 (by kernel_rfl) (by kernel_rfl) (by simp) (by kernel_rfl) (by kernel_rfl) (.inr (by have := (s21).size; have := hb34; omega)) (fun w40 g41 x42 s43 => ?_)
    refine W.endF 41 [(0, .agg #[.int .i64 m, .slice A n c]), (1, .pointer (some ⟨b2, 0, none⟩)), (2, .string (⟨#[]⟩ : ByteArray)), (3, .string s), (5, .pointer (some ⟨b32, 0, none⟩)), (12, .slice A n c), (13, .int .i64 ((n : Nat) : Int)), (14, .int .i64 ((k : Nat) : Int)), (15, .bool true)] (fun U44 => ?_)
    have x6 := Sk s43 x6 (by simp)
    have c45 := (Sb c18 s43 nkk)
    apply h9
    refine W.region_sch (row := none) (Sch.of [(0, false), (1, false), (2, false), (5, false), (6, false), (10, false), (11, false), (15, false), (16, false), (3, true), (4, false), (7, true), (8, false), (9, false), (12, true), (13, false), (14, false), (17, true), (18, false), (19, false), (20, false), (21, false)]) (by kernel_rfl) (by kernel_rfl) (fun _ d _ _ _ h => by cases d <;> exact h) (by kernel_rfl) (fun w46 e47 s48 => ?_)
    refine W.mv (v := .string s) (h := ?_)
    refine W.q (v := .pointer (some ⟨b32, 0, none⟩)) (hr := (r_field0 rfl (by kernel_rfl) (by kernel_rfl))) (h := ?_)
    refine W.ld (v := .int .i64 x22.id) (hc := (sgS (blk_cell (j := 0) x42 (by kernel_rfl)) (by simp))) (h := ?_)
    refine W.q (v := .pointer (some ⟨b32, 1, none⟩)) (hr := (r_field (k := 1) rfl (by kernel_rfl) (by kernel_rfl))) (h := ?_)
    refine W.ld (v := .int .i64 x22.fr) (hc := (sgS (blk_cell (j := 1) x42 (by kernel_rfl)) (by simp))) (h := ?_)
    refine W.q (v := .pointer (some ⟨b32, 2, none⟩)) (hr := (r_field (k := 2) rfl (by kernel_rfl) (by kernel_rfl))) (h := ?_)
    refine W.ld (v := .int .i64 x22.to) (hc := (sgS (blk_cell (j := 2) x42 (by kernel_rfl)) (by simp))) (h := ?_)
    refine W.q (v := .pointer (some ⟨b32, 3, none⟩)) (hr := (r_field (k := 3) rfl (by kernel_rfl) (by kernel_rfl))) (h := ?_)
    refine W.ld (v := .int .i64 x22.sz) (hc := (sgS (blk_cell (j := 3) x42 (by kernel_rfl)) (by simp))) (h := ?_)
    refine W.sc (vs := [.int .i64 x22.id]) rfl rfl (by kernel_rfl) (by kernel_rfl) (by kernel_rfl) rfl (itoa_lib x22.id (by omega) (by omega) _ (tab_kept htab (Sb c45 s48 nkk))) ?_
    rintro e w50 ⟨rfl, b49⟩
    have s51 := SG.of_below s48 b49
    refine ⟨_, rfl, s51, ?_⟩
    refine W.q (v := .string ((itoaB x22.id) ++ (⟨#[58, 32]⟩ : ByteArray))) (hr := (r_addS (s := (itoaB x22.id)) (r := (⟨#[58, 32]⟩ : ByteArray)) rfl (by kernel_rfl) (by kernel_rfl) (by (try simp only [ByteArray.size_append, size1, sz2, sz6]); have := itoaB_le (n := x22.id) (by omega) (by omega); omega))) (h := ?_)
    refine W.sc (vs := [.int .i64 x22.fr]) rfl rfl (by kernel_rfl) (by kernel_rfl) (by kernel_rfl) rfl (itoa_lib x22.fr (by omega) (by omega) _ (tab_kept htab (Sb c45 s51 nkk))) ?_
    rintro e w53 ⟨rfl, b52⟩
    have s54 := SG.of_below s51 b52
    refine ⟨_, rfl, s54, ?_⟩
    refine W.q (v := .string (((itoaB x22.id) ++ (⟨#[58, 32]⟩ : ByteArray)) ++ (itoaB x22.fr))) (hr := (r_addS (s := ((itoaB x22.id) ++ (⟨#[58, 32]⟩ : ByteArray))) (r := (itoaB x22.fr)) rfl (by kernel_rfl) (by kernel_rfl) (by (try simp only [ByteArray.size_append, size1, sz2, sz6]); have := itoaB_le (n := x22.fr) (by omega) (by omega); have := itoaB_le (n := x22.id) (by omega) (by omega); omega))) (h := ?_)
    refine W.q (v := .string ((((itoaB x22.id) ++ (⟨#[58, 32]⟩ : ByteArray)) ++ (itoaB x22.fr)) ++ (⟨#[45]⟩ : ByteArray))) (hr := (r_addS (s := (((itoaB x22.id) ++ (⟨#[58, 32]⟩ : ByteArray)) ++ (itoaB x22.fr))) (r := (⟨#[45]⟩ : ByteArray)) rfl (by kernel_rfl) (by kernel_rfl) (by (try simp only [ByteArray.size_append, size1, sz2, sz6]); have := itoaB_le (n := x22.fr) (by omega) (by omega); have := itoaB_le (n := x22.id) (by omega) (by omega); omega))) (h := ?_)
    refine W.sc (vs := [.int .i64 x22.to]) rfl rfl (by kernel_rfl) (by kernel_rfl) (by kernel_rfl) rfl (itoa_lib x22.to (by omega) (by omega) _ (tab_kept htab (Sb c45 s54 nkk))) ?_
    rintro e w56 ⟨rfl, b55⟩
    have s57 := SG.of_below s54 b55
    refine ⟨_, rfl, s57, ?_⟩
    refine W.q (v := .string (((((itoaB x22.id) ++ (⟨#[58, 32]⟩ : ByteArray)) ++ (itoaB x22.fr)) ++ (⟨#[45]⟩ : ByteArray)) ++ (itoaB x22.to))) (hr := (r_addS (s := ((((itoaB x22.id) ++ (⟨#[58, 32]⟩ : ByteArray)) ++ (itoaB x22.fr)) ++ (⟨#[45]⟩ : ByteArray))) (r := (itoaB x22.to)) rfl (by kernel_rfl) (by kernel_rfl) (by (try simp only [ByteArray.size_append, size1, sz2, sz6]); have := itoaB_le (n := x22.fr) (by omega) (by omega); have := itoaB_le (n := x22.id) (by omega) (by omega); have := itoaB_le (n := x22.to) (by omega) (by omega); omega))) (h := ?_)
    refine W.q (v := .string ((((((itoaB x22.id) ++ (⟨#[58, 32]⟩ : ByteArray)) ++ (itoaB x22.fr)) ++ (⟨#[45]⟩ : ByteArray)) ++ (itoaB x22.to)) ++ (⟨#[32, 115, 105, 122, 101, 32]⟩ : ByteArray))) (hr := (r_addS (s := (((((itoaB x22.id) ++ (⟨#[58, 32]⟩ : ByteArray)) ++ (itoaB x22.fr)) ++ (⟨#[45]⟩ : ByteArray)) ++ (itoaB x22.to))) (r := (⟨#[32, 115, 105, 122, 101, 32]⟩ : ByteArray)) rfl (by kernel_rfl) (by kernel_rfl) (by (try simp only [ByteArray.size_append, size1, sz2, sz6]); have := itoaB_le (n := x22.fr) (by omega) (by omega); have := itoaB_le (n := x22.id) (by omega) (by omega); have := itoaB_le (n := x22.to) (by omega) (by omega); omega))) (h := ?_)
    refine W.sc (vs := [.int .i64 x22.sz]) rfl rfl (by kernel_rfl) (by kernel_rfl) (by kernel_rfl) rfl (itoa_lib x22.sz (by omega) (by omega) _ (tab_kept htab (Sb c45 s57 nkk))) ?_
    rintro e w59 ⟨rfl, b58⟩
    have s60 := SG.of_below s57 b58
    refine ⟨_, rfl, s60, ?_⟩
    refine W.q (v := .string (((((((itoaB x22.id) ++ (⟨#[58, 32]⟩ : ByteArray)) ++ (itoaB x22.fr)) ++ (⟨#[45]⟩ : ByteArray)) ++ (itoaB x22.to)) ++ (⟨#[32, 115, 105, 122, 101, 32]⟩ : ByteArray)) ++ (itoaB x22.sz))) (hr := (r_addS (s := ((((((itoaB x22.id) ++ (⟨#[58, 32]⟩ : ByteArray)) ++ (itoaB x22.fr)) ++ (⟨#[45]⟩ : ByteArray)) ++ (itoaB x22.to)) ++ (⟨#[32, 115, 105, 122, 101, 32]⟩ : ByteArray))) (r := (itoaB x22.sz)) rfl (by kernel_rfl) (by kernel_rfl) (by (try simp only [ByteArray.size_append, size1, sz2, sz6]); have := itoaB_le (n := x22.fr) (by omega) (by omega); have := itoaB_le (n := x22.id) (by omega) (by omega); have := itoaB_le (n := x22.sz) (by omega) (by omega); have := itoaB_le (n := x22.to) (by omega) (by omega); omega))) (h := ?_)
    refine W.q (v := .string ((((((((itoaB x22.id) ++ (⟨#[58, 32]⟩ : ByteArray)) ++ (itoaB x22.fr)) ++ (⟨#[45]⟩ : ByteArray)) ++ (itoaB x22.to)) ++ (⟨#[32, 115, 105, 122, 101, 32]⟩ : ByteArray)) ++ (itoaB x22.sz)) ++ (⟨#[10]⟩ : ByteArray))) (hr := (r_addS (s := (((((((itoaB x22.id) ++ (⟨#[58, 32]⟩ : ByteArray)) ++ (itoaB x22.fr)) ++ (⟨#[45]⟩ : ByteArray)) ++ (itoaB x22.to)) ++ (⟨#[32, 115, 105, 122, 101, 32]⟩ : ByteArray)) ++ (itoaB x22.sz))) (r := (⟨#[10]⟩ : ByteArray)) rfl (by kernel_rfl) (by kernel_rfl) (by (try simp only [ByteArray.size_append, size1, sz2, sz6]); have := itoaB_le (n := x22.fr) (by omega) (by omega); have := itoaB_le (n := x22.id) (by omega) (by omega); have := itoaB_le (n := x22.sz) (by omega) (by omega); have := itoaB_le (n := x22.to) (by omega) (by omega); omega))) (h := ?_)
    refine W.q (v := .string (s ++ ((((((((itoaB x22.id) ++ (⟨#[58, 32]⟩ : ByteArray)) ++ (itoaB x22.fr)) ++ (⟨#[45]⟩ : ByteArray)) ++ (itoaB x22.to)) ++ (⟨#[32, 115, 105, 122, 101, 32]⟩ : ByteArray)) ++ (itoaB x22.sz)) ++ (⟨#[10]⟩ : ByteArray)))) (hr := (r_addS (s := s) (r := ((((((((itoaB x22.id) ++ (⟨#[58, 32]⟩ : ByteArray)) ++ (itoaB x22.fr)) ++ (⟨#[45]⟩ : ByteArray)) ++ (itoaB x22.to)) ++ (⟨#[32, 115, 105, 122, 101, 32]⟩ : ByteArray)) ++ (itoaB x22.sz)) ++ (⟨#[10]⟩ : ByteArray))) rfl (by kernel_rfl) (by kernel_rfl) (by (try simp only [ByteArray.size_append, size1, sz2, sz6]); have := itoaB_le (n := x22.fr) (by omega) (by omega); have := itoaB_le (n := x22.id) (by omega) (by omega); have := itoaB_le (n := x22.sz) (by omega) (by omega); have := itoaB_le (n := x22.to) (by omega) (by omega); omega))) (h := ?_)
    refine W.as (v := .string (s ++ ((((((((itoaB x22.id) ++ (⟨#[58, 32]⟩ : ByteArray)) ++ (itoaB x22.fr)) ++ (⟨#[45]⟩ : ByteArray)) ++ (itoaB x22.to)) ++ (⟨#[32, 115, 105, 122, 101, 32]⟩ : ByteArray)) ++ (itoaB x22.sz)) ++ (⟨#[10]⟩ : ByteArray)))) (h := ?_)
    refine W.endF 41 [(0, .agg #[.int .i64 m, .slice A n c]), (1, .pointer (some ⟨b2, 0, none⟩)), (2, .string (⟨#[]⟩ : ByteArray)), (3, .string (s ++ ((((((((itoaB x22.id) ++ (⟨#[58, 32]⟩ : ByteArray)) ++ (itoaB x22.fr)) ++ (⟨#[45]⟩ : ByteArray)) ++ (itoaB x22.to)) ++ (⟨#[32, 115, 105, 122, 101, 32]⟩ : ByteArray)) ++ (itoaB x22.sz)) ++ (⟨#[10]⟩ : ByteArray)))), (5, .pointer (some ⟨b32, 0, none⟩)), (12, .slice A n c), (13, .int .i64 ((n : Nat) : Int)), (14, .int .i64 ((k : Nat) : Int)), (15, .bool true)] (fun U61 => ?_)
    have x6 := Sk s60 x6 (by simp)
    have x42 := Sk s60 x42 (by simp)
    have c62 := (Sb c45 s60 nkk)
    apply h8
    refine W.region_quiet [(0, false), (1, false)] (by kernel_rfl) ?_
    refine W.q (v := .int .i64 ((k + 1 : Nat) : Int)) (hr := (r_add (m := ((k : Nat) : Int)) (n := 1) (z := ((k + 1 : Nat) : Int)) rfl (by kernel_rfl) (by kernel_rfl) (by omega) (by omega))) (h := ?_)
    refine W.mv (v := .int .i64 ((k + 1 : Nat) : Int)) (h := ?_)
    refine W.endF 41 [(0, .agg #[.int .i64 m, .slice A n c]), (1, .pointer (some ⟨b2, 0, none⟩)), (2, .string (⟨#[]⟩ : ByteArray)), (3, .string (s ++ ((((((((itoaB x22.id) ++ (⟨#[58, 32]⟩ : ByteArray)) ++ (itoaB x22.fr)) ++ (⟨#[45]⟩ : ByteArray)) ++ (itoaB x22.to)) ++ (⟨#[32, 115, 105, 122, 101, 32]⟩ : ByteArray)) ++ (itoaB x22.sz)) ++ (⟨#[10]⟩ : ByteArray)))), (5, .pointer (some ⟨b32, 0, none⟩)), (12, .slice A n c), (13, .int .i64 ((n : Nat) : Int)), (14, .int .i64 ((k + 1 : Nat) : Int)), (15, .bool true)] (fun U63 => ?_)
    exact h5 _ _ _ (by omega : (n - (k + 1)) < _) ⟨k + 1, (s ++ ((((((((itoaB x22.id) ++ (⟨#[58, 32]⟩ : ByteArray)) ++ (itoaB x22.fr)) ++ (⟨#[45]⟩ : ByteArray)) ++ (itoaB x22.to)) ++ (⟨#[32, 115, 105, 122, 101, 32]⟩ : ByteArray)) ++ (itoaB x22.sz)) ++ (⟨#[10]⟩ : ByteArray))), (fun iU9 => lk [(0, .agg #[.int .i64 m, .slice A n c]), (1, .pointer (some ⟨b2, 0, none⟩)), (2, .string (⟨#[]⟩ : ByteArray)), (3, .string (s ++ ((((((((itoaB x22.id) ++ (⟨#[58, 32]⟩ : ByteArray)) ++ (itoaB x22.fr)) ++ (⟨#[45]⟩ : ByteArray)) ++ (itoaB x22.to)) ++ (⟨#[32, 115, 105, 122, 101, 32]⟩ : ByteArray)) ++ (itoaB x22.sz)) ++ (⟨#[10]⟩ : ByteArray)))), (5, .pointer (some ⟨b32, 0, none⟩)), (12, .slice A n c), (13, .int .i64 ((n : Nat) : Int)), (14, .int .i64 ((k + 1 : Nat) : Int)), (15, .bool true)] iU9 (U63 iU9)), (by kernel_rfl), rfl, (by omega), (by rw [textN_take hx23, hs9]; unfold lineB; simp only [ByteArray.append_assoc]), (by have h7 := hsz; (try simp only [ByteArray.size_append, size1, sz2, sz6]); have := itoaB_le (n := x22.id) (by omega) (by omega); have := itoaB_le (n := x22.fr) (by omega) (by omega); have := itoaB_le (n := x22.to) (by omega) (by omega); have := itoaB_le (n := x22.sz) (by omega) (by omega); omega), x6, c62⟩
  · refine W.q (v := .bool false) (hr := (r_lss (m := ((k : Nat) : Int)) (n := ((n : Nat) : Int)) rfl (by kernel_rfl) (by kernel_rfl) (df q19))) (h := ?_)
    refine W.endF 41 [(0, .agg #[.int .i64 m, .slice A n c]), (1, .pointer (some ⟨b2, 0, none⟩)), (2, .string (⟨#[]⟩ : ByteArray)), (3, .string s), (12, .slice A n c), (13, .int .i64 ((n : Nat) : Int)), (14, .int .i64 ((k : Nat) : Int)), (15, .bool false)] (fun U64 => ?_)
    apply h6
    refine wp_seq_k (fun K10 h10 => ?_)
    refine wp_cond_false (by kernel_rfl) ?_
    refine wp_exit ?_
    apply h3
    refine wp_seq_k (fun K11 h11 => ?_)
    refine W.region_quiet [(0, false), (1, false)] (by kernel_rfl) ?_
    refine W.mv (v := .string s) (h := ?_)
    refine W.as (v := .string s) (h := ?_)
    refine W.endF 41 [(0, .agg #[.int .i64 m, .slice A n c]), (1, .pointer (some ⟨b2, 0, none⟩)), (2, .string s), (3, .string s), (12, .slice A n c), (13, .int .i64 ((n : Nat) : Int)), (14, .int .i64 ((k : Nat) : Int)), (15, .bool false)] (fun U65 => ?_)
    apply h11
    refine wp_ret ?_
    try simp only [Exit.then]
    refine ret1 (v := .string s) rfl (by kernel_rfl) ?_
    have e9 : s = textN m ps := by rw [hs9, List.take_of_length_le (by omega)]
    exact ⟨by rw [e9], c18⟩
end Go.Proofs.YtdlcldaogcbnlaaDoor
namespace Go.Proofs.YtdlcldaogcbnlaaDoor
open Go.RowKit
set_option linter.unusedVariables false
section
variable {P : Program} {fn : Func} {R : Ending → World → Prop} {l : List Value} {w : World}
theorem res_ct {t u : Tmp} {ty e : TypeId} {b : Nat} {cs : Array Value} {x : Value} (hf : fn.results = #[.cell t ty, .tmp u]) (hv : l.getD t undef = .pointer (some ⟨b, 0, none⟩)) (ht : aggB P ty = some true) (hs : sizeB P ty = some cs.size) (hu : l.getD u undef = x) (hx : w.heap[b]? = some (.cells cs e (0, 0))) :
    (results fn l.toArray).run P w = .ok (.tuple #[.agg cs, x]) w := by
  have h := run_loadCells_list (P := P) (w := w) ⟨b, 0, none⟩ cs.toList (fun j v hj => by
    rw [Addr.add_lit]
    have := blk_cell (j := 0 + j) (v := v) hx (by rw [Nat.zero_add]; simpa using hj)
    exact this)
  rw [Array.length_toList] at h
  have h0 : (loadVar ty ⟨b, 0, none⟩).run P w = .ok (.agg cs) w := by
    simp [loadVar, run_isAgg ht, run_sizeOf hs, h]
  have hv' : l[t]?.getD undef = .pointer (some ⟨b, 0, none⟩) := by rw [← hv]; simp
  have hu' : l[u]?.getD undef = x := by rw [← hu]; simp
  simp [results, hf, hv', hu', asAddr, h0]
theorem retCT {t u : Tmp} {ty e : TypeId} {b : Nat} {cs : Array Value} {x : Value} (hf : fn.results = #[.cell t ty, .tmp u]) (hv : l.getD t undef = .pointer (some ⟨b, 0, none⟩)) (ht : aggB P ty = some true) (hs : sizeB P ty = some cs.size) (hu : l.getD u undef = x) (hx : w.heap[b]? = some (.cells cs e (0, 0)))
    (h : R (.returned (.tuple #[.agg cs, x])) w) : bodyPost P fn R .ret ⟨l.toArray, []⟩ w := bodyPost_ret (res_ct hf hv ht hs hu hx) rfl h
end
end Go.Proofs.YtdlcldaogcbnlaaDoor
namespace Go.Proofs.YtdlcldaogcbnlaaDoor
open Go.RowKit
set_option linter.unusedVariables false
set_option linter.unusedSimpArgs false
def bytesV (zs : List Int) : List Value := zs.map (Value.int .u8)
theorem rd_sepG {w w' : World} {size n : Nat} {A : Option Addr} {xs : List Value} {g : Option Nat} (h : Rd w size A n xs) (hg : w.grownBy w' g) (hs : Sp A n g) : Rd w' size A n xs := rd_sep h hg hs
def Cur (w : World) (B N k : Nat) : Prop := ∃ (A : Option Addr) (n c : Nat) (zs : List Int) (at_ : Nat) (sd : Int), w.heap[B]? = some (.cells #[.slice A n c, .int .i64 ((at_ : Nat) : Int), .int .u64 sd] 66 (0, 0)) ∧
  Rd w 1 A n (bytesV zs) ∧ (∀ z ∈ zs, 0 ≤ z ∧ z < 256) ∧ n ≤ 4611686018427387904 ∧ at_ ≤ k ∧ N ≤ B ∧ ∀ b off, 0 < n → A = some ⟨b, off, none⟩ → b < N
theorem Cur.lt {w : World} {B N k : Nat} (h : Cur w B N k) : B < w.heap.size := by
  obtain ⟨_, _, _, _, _, _, h1, _⟩ := h; exact blk_lt h1
theorem Cur.hN {w : World} {B N k : Nat} (h : Cur w B N k) : N ≤ w.heap.size := by
  have := h.lt
  obtain ⟨_, _, _, _, _, _, h1, _, _, _, _, h2, _⟩ := h; omega
theorem Cur.mono {w : World} {B N k k' : Nat} (h : Cur w B N k) (hk : k ≤ k') : Cur w B N k' := by
  obtain ⟨A, n, c, zs, at_, sd, h1, h2, h3, h4, h5, h6⟩ := h
  exact ⟨A, n, c, zs, at_, sd, h1, h2, h3, h4, by omega, h6⟩
theorem Cur.keeps {w w' : World} {B N k : Nat} (h : Cur w B N k) (hs : w.heap.size ≤ w'.heap.size) (hb : w'.heap[B]? = w.heap[B]?) (hn : ∀ j, j < N → w'.heap[j]? = w.heap[j]?) : Cur w' B N k := by
  obtain ⟨A, n, c, zs, at_, sd, h1, h2, h3, h4, h5, h6, h7⟩ := h
  refine ⟨A, n, c, zs, at_, sd, hb.trans h1, ⟨h2.1, fun hp => ?_⟩, h3, h4, h5, h6, h7⟩
  obtain ⟨b, off, e, hlt, hc⟩ := h2.2 hp
  exact ⟨b, off, e, by omega, fun j u hu => (World.cell?_of_block (hn b (h7 b off hp e))).trans (hc j u hu)⟩
theorem Cur.heap {w w' : World} {B N k : Nat} (h : Cur w B N k) (e : w'.heap = w.heap) : Cur w' B N k := h.keeps (by rw [e]; exact Nat.le_refl _) (by rw [e]) (fun j _ => by rw [e])
theorem Cur.below {w w' : World} {B N k : Nat} (h : Cur w B N k) (b : Below w.heap.size w w') : Cur w' B N k := h.keeps b.size (b.block _ h.lt) (fun j hj => b.block _ (Nat.lt_of_lt_of_le hj h.hN))
end Go.Proofs.YtdlcldaogcbnlaaDoor
namespace Go.Proofs.YtdlcldaogcbnlaaDoor
open Go.RowKit
set_option linter.unusedVariables false
set_option linter.unusedSimpArgs false
end Go.Proofs.YtdlcldaogcbnlaaDoor
namespace Go.Proofs.YtdlcldaogcbnlaaDoor
open Go.RowKit
set_option linter.unusedVariables false
end Go.Proofs.YtdlcldaogcbnlaaDoor
namespace Go.Proofs.YtdlcldaogcbnlaaDoor
open Go.RowKit
set_option linter.unusedVariables false
set_option linter.unusedSimpArgs false
theorem fin_net {w w' : World} {e : TypeId} {A : Option Addr} {n c : Nat} {zs vs : List Pp} {m vm : Int} {b vb : Bool} (how : w'.ownsRow w.heap.size e 4 (.slice A n c) n (pipesV zs)) (hz : zs = vs) (hm : m = vm) (hb : b = vb) (bel : Below w.heap.size w w') :
    ∃ A' d, Ending.returned (.tuple #[.agg #[.int .i64 m, .slice A n c], .bool b]) = .returned (.tuple #[.agg #[.int .i64 vm, .slice A' vs.length d], .bool vb]) ∧ w'.ownsRow w.heap.size e 4 (.slice A' vs.length d) vs.length (pipesV vs) ∧ Below w.heap.size w w' := by
  subst hz hm hb
  have hl := rd_pipes_len (own_rd how)
  subst hl
  exact ⟨_, _, rfl, how, bel⟩
end Go.Proofs.YtdlcldaogcbnlaaDoor
namespace Go.Proofs.YtdlcldaogcbnlaaDoor
open Go.RowKit
set_option linter.unusedVariables false
set_option linter.unusedSimpArgs false
theorem split_part {s x : ByteArray} {c i : Nat} (hc : c < 256) (h : (splitL s c)[i]? = some x) : x.size ≤ s.size := by
  rw [splitL_splitC s hc, List.getElem?_map] at h
  cases e : (splitC (UInt8.ofNat c) s.data.toList)[i]? with
  | none => rw [e] at h; cases h
  | some l =>
    rw [e] at h
    obtain rfl := Option.some.inj h
    have hm := List.mem_of_getElem? e
    have key : ∀ (r : List UInt8) (l : List UInt8), l ∈ splitC (UInt8.ofNat c) r → l.length ≤ r.length := by
      intro r
      induction r with
      | nil => intro l h; simp [splitC] at h; rw [h]; exact Nat.le_refl _
      | cons b r ih =>
        intro l h
        unfold splitC at h
        split at h
        · rcases List.mem_cons.1 h with rfl | h
          · simp
          · have := ih l h; simp only [List.length_cons]; omega
        · cases hs : splitC (UInt8.ofNat c) r with
          | nil => exact absurd hs (splitC_ne _ _)
          | cons y t =>
            rw [hs] at h
            have h' : l = b :: y ∨ l ∈ t := by simpa using h
            rcases h' with rfl | h'
            · have := ih y (by rw [hs]; exact List.mem_cons_self ..); simp only [List.length_cons]; omega
            · have := ih l (by rw [hs]; exact List.mem_cons_of_mem _ h'); simp only [List.length_cons]; omega
    have := key _ _ hm
    show l.toArray.size ≤ s.size
    rw [List.size_toArray]
    exact this
theorem ext_le (s : ByteArray) (a b : Nat) : (s.extract a b).size ≤ s.size := by
  show (s.extract a b).data.size ≤ s.data.size
  rw [← Array.length_toList, Lib.extract_data, List.length_take, List.length_drop, Array.length_toList]
  omega
set_option maxRecDepth 100000 in
set_option maxHeartbeats 1000000 in
theorem l2Line_any (s : ByteArray) (w : World) (hs : s.size ≤ 1048576) :
    Calls Tryd.prog 79 #[.string s] w fun e w' => ∃ (p : Pp) (b : Bool), e = .returned (.tuple #[.agg #[.int .i64 p.id, .int .i64 p.fr, .int .i64 p.to, .int .i64 p.sz], .bool b]) ∧ lineRel s p b ∧ Below w.heap.size w w' := by
 go_enter Tryd.func79, Tryd.ntmps79
 refine F.begin 84 [(0, .string s)] (fun U0 => ?_)
 refine wk fun K1 h1 => ?_
 refine W.region_plain (row := none) [(0, true), (1, false)] kk ?_
 have s1 := SG.self w none
 refine W.sn (fun b => .pointer (some ⟨b, 0, none⟩)) #[.int .i64 0, .int .i64 0, .int .i64 0, .int .i64 0] 38 s1 rfl kk rfl (fun _ => by kernel_rfl) (fun b2 w3 hb4 k5 x6 s7 => ?_)
 apply F.nx
 have lo8 : w.heap.size ≤ b2 := Nl ((Sb (Below.refl _ _) s1 nkk)).size (Nat.le_of_eq hb4)
 refine Fa (.bool false) ?_
 apply F.es
 have c9 := (Sb (Below.refl _ _) s7 nkk)
 apply h1
 refine wk fun K2 h2 => ?_
 refine W.region_plain (row := none) [(0, false), (1, true), (2, false)] kk ?_
 have s10 := SG.self w3 none
 refine Fv (.string s) ?_
 have lb20 := (Nat.lt_of_lt_of_le (blk_lt x6) (s10).size)
 have z16 := ((Sb c9 s10 nkk)).size
 refine Fc [.string s, .int .u8 32] (l1Split_any s 32 _ (by omega)) ?_
 rintro e w22 ⟨A11, n12, c13, rfl, ho14, b21⟩
 have s23 := SG.of_below s10 b21
 refine ⟨_, rfl, s23, ?_⟩
 apply F.nx
 have ho15 := own_base (base' := w.heap.size) ho14 z16
 have hl18 := rd_strs_len (own_rd ho15)
 have hl18p := splitL_pos s 32
 have hl18q := splitL_len s 32
 obtain ⟨g19, rfl, _, _⟩ := own_addr ho15 (by omega)
 refine Fa (.slice (some ⟨g19, 0, none⟩) n12 c13) ?_
 apply F.es
 have x6 := Sk s23 x6 onn
 have c25 := (Sb c9 s23 nkk)
 apply h2
 refine wk fun K3 h3 => ?_
 refine wk fun K4 h4 => ?_
 refine Rq 10 ?_
 refine Fv (.slice (some ⟨g19, 0, none⟩) n12 c13) ?_
 refine Fq (.int .i64 (n12 : Int)) (r_len (A := (some ⟨g19, 0, none⟩)) (n := n12) (c := c13) rfl ek kk) ?_
 by_cases q26 : ((n12 : Int) : Int) ≠ (4 : Int)
 ·refine Fq (.bool true) (r_neq (m := (n12 : Int)) (n := 4) rfl ek ek (dt q26)) ?_
  refine Fv (.bool true) ?_
  refine Fs rfl ?_
  refine Fs rfl ?_
  refine Fs rfl ?_
  refine Fs rfl ?_
  refine Fs rfl ?_
  refine Fq (.bool true) (r_pick (b := true) rfl ek ek) ?_
  apply F.es
  apply h4
  refine wp_cond_true ek ?_
  refine wk fun K5 h5 => ?_
  refine W.region_plain (row := (some b2)) [(0, false), (1, true), (2, false)] kk ?_
  have s27 := SG.self w22 (some b2)
  refine Fq (.agg #[.int .i64 0, .int .i64 0, .int .i64 0, .int .i64 0]) (r_build rfl (vs := []) kk kk) ?_
  refine W.ss (v := .agg #[.int .i64 0, .int .i64 0, .int .i64 0, .int .i64 0]) (j := 0) (news := [.int .i64 0, .int .i64 0, .int .i64 0, .int .i64 0]) (cs' := #[.int .i64 0, .int .i64 0, .int .i64 0, .int .i64 0]) s27 rfl kk rfl rfl kk kk x6 kk kk (by simp) kk kk (.inl rfl) (fun w28 g29 x30 s31 => ?_)
  refine Fa (.bool false) ?_
  apply F.es
  have c33 := (Sb c25 s31 (fun kq e => by cases e; exact lo8))
  apply h5
  as_aux_lemma =>
   refine wp_ret ?_
   try simp only [Exit.then]
   refine retCT (x := .bool false) rfl kk kk kk kk x30 ?_
   exact ⟨⟨0, 0, 0, 0⟩, _, rfl, fun q hq e => absurd (show False from by have h9 := line_len e; omega) id, c33⟩
 refine Fq (.bool false) (r_neq (m := (n12 : Int)) (n := 4) rfl ek ek (df q26)) ?_
 refine Fv (.bool false) ?_
 refine Fv (.slice (some ⟨g19, 0, none⟩) n12 c13) ?_
 refine Fq (.pointer (some ⟨g19, 0, none⟩)) (r_idx0 (n := n12) (c := c13) (k := 0) rfl ek kk kk (by omega)) ?_
 obtain ⟨x34, hx35⟩ := get_of (zs := (splitL s 32)) (k := 0) (by have h9 := own_len ho15; rw [strs_len] at h9; omega)
 have hx34 := split_part (c := 32) (by omega) hx35
 refine Fl (.string x34) (eqS (own_atS ho15 hx35)) ?_
 refine Fq (.int .i64 ((x34.size : Nat) : Int)) (r_lenS (s := x34) rfl ek kk) ?_
 by_cases q36 : (((x34.size : Nat) : Int) : Int) < (2 : Int)
 ·refine Fq (.bool true) (r_lss (m := ((x34.size : Nat) : Int)) (n := 2) rfl ek ek (dt q36)) ?_
  refine Fq (.bool true) (r_pick (b := false) rfl ek ek) ?_
  apply F.es
  apply h4
  refine wp_cond_true ek ?_
  refine wk fun K6 h6 => ?_
  refine W.region_plain (row := (some b2)) [(0, false), (1, true), (2, false)] kk ?_
  have s37 := SG.self w22 (some b2)
  refine Fq (.agg #[.int .i64 0, .int .i64 0, .int .i64 0, .int .i64 0]) (r_build rfl (vs := []) kk kk) ?_
  refine W.ss (v := .agg #[.int .i64 0, .int .i64 0, .int .i64 0, .int .i64 0]) (j := 0) (news := [.int .i64 0, .int .i64 0, .int .i64 0, .int .i64 0]) (cs' := #[.int .i64 0, .int .i64 0, .int .i64 0, .int .i64 0]) s37 rfl kk rfl rfl kk kk x6 kk kk (by simp) kk kk (.inl rfl) (fun w38 g39 x40 s41 => ?_)
  refine Fa (.bool false) ?_
  apply F.es
  have c43 := (Sb c25 s41 (fun kq e => by cases e; exact lo8))
  apply h6
  refine wp_ret ?_
  try simp only [Exit.then]
  refine retCT (x := .bool false) rfl kk kk kk kk x40 ?_
  exact ⟨⟨0, 0, 0, 0⟩, _, rfl, fun q hq e => absurd (show False from by have h9 := line_len e; have h8 := line_first hx35 e; omega) id, c43⟩
 refine Fq (.bool false) (r_lss (m := ((x34.size : Nat) : Int)) (n := 2) rfl ek ek (df q36)) ?_
 refine Fq (.bool false) (r_pick (b := false) rfl ek ek) ?_
 apply F.es
 apply h4
 refine wp_cond_false ek ?_
 apply wp_skip
 apply h3
 refine wk fun K7 h7 => ?_
 refine W.region_plain (row := none) [(0, false), (1, false), (2, false), (3, true), (4, false)] kk ?_
 have s44 := SG.self w22 none
 refine Fv (.slice (some ⟨g19, 0, none⟩) n12 c13) ?_
 refine Fq (.pointer (some ⟨g19, 1, none⟩)) (r_idx0 (n := n12) (c := c13) (k := 1) rfl ek kk kk (by omega)) ?_
 obtain ⟨x45, hx46⟩ := get_of (zs := (splitL s 32)) (k := 1) (by have h9 := own_len ho15; rw [strs_len] at h9; omega)
 have hx45 := split_part (c := 32) (by omega) hx46
 refine Fl (.string x45) (sgS (own_atS ho15 hx46) (by simp)) ?_
 have lb56 := (Nat.lt_of_lt_of_le (blk_lt x6) (s44).size)
 have z52 := ((Sb c25 s44 nkk)).size
 refine Fc [.string x45, .int .u8 45] (l1Split_any x45 45 _ (by omega)) ?_
 rintro e w58 ⟨A47, n48, c49, rfl, ho50, b57⟩
 have s59 := SG.of_below s44 b57
 refine ⟨_, rfl, s59, ?_⟩
 apply F.nx
 have ho60 := own_kept ho15 b57
 have ho51 := own_base (base' := w.heap.size) ho50 z52
 have hl54 := rd_strs_len (own_rd ho51)
 have hl54p := splitL_pos x45 45
 have hl54q := splitL_len x45 45
 obtain ⟨g55, rfl, _, _⟩ := own_addr ho51 (by omega)
 refine Fa (.slice (some ⟨g55, 0, none⟩) n48 c49) ?_
 apply F.es
 have x6 := Sk s59 x6 onn
 have c63 := (Sb c25 s59 nkk)
 apply h7
 as_aux_lemma =>
  refine wk fun K8 h8 => ?_
  refine wk fun K9 h9 => ?_
  refine Rq 3 ?_
  refine Fv (.slice (some ⟨g55, 0, none⟩) n48 c49) ?_
  refine Fq (.int .i64 (n48 : Int)) (r_len (A := (some ⟨g55, 0, none⟩)) (n := n48) (c := c49) rfl ek kk) ?_
  by_cases q64 : ((n48 : Int) : Int) ≠ (2 : Int)
  ·refine Fq (.bool true) (r_neq (m := (n48 : Int)) (n := 2) rfl ek ek (dt q64)) ?_
   apply F.es
   apply h9
   refine wp_cond_true ek ?_
   refine wk fun K10 h10 => ?_
   refine W.region_plain (row := (some b2)) [(0, false), (1, true), (2, false)] kk ?_
   have s65 := SG.self w58 (some b2)
   refine Fq (.agg #[.int .i64 0, .int .i64 0, .int .i64 0, .int .i64 0]) (r_build rfl (vs := []) kk kk) ?_
   refine W.ss (v := .agg #[.int .i64 0, .int .i64 0, .int .i64 0, .int .i64 0]) (j := 0) (news := [.int .i64 0, .int .i64 0, .int .i64 0, .int .i64 0]) (cs' := #[.int .i64 0, .int .i64 0, .int .i64 0, .int .i64 0]) s65 rfl kk rfl rfl kk kk x6 kk kk (by simp) kk kk (.inl rfl) (fun w66 g67 x68 s69 => ?_)
   refine Fa (.bool false) ?_
   apply F.es
   have c72 := (Sb c63 s69 (fun kq e => by cases e; exact lo8))
   apply h10
   refine wp_ret ?_
   try simp only [Exit.then]
   refine retCT (x := .bool false) rfl kk kk kk kk x68 ?_
   exact ⟨⟨0, 0, 0, 0⟩, _, rfl, fun q hq e => absurd (show False from by have h9 := line_len e; have h8 := line_ends hx46 hq e; omega) id, c72⟩
  refine Fq (.bool false) (r_neq (m := (n48 : Int)) (n := 2) rfl ek ek (df q64)) ?_
  apply F.es
  apply h9
  refine wp_cond_false ek ?_
  apply wp_skip
  apply h8
  refine wk fun K11 h11 => ?_
  refine W.region_sch (row := none) (Sch.of [(0, false), (1, false), (2, false), (3, false), (4, false), (5, false), (6, false), (7, false), (8, false), (9, true), (10, false), (11, false), (12, false), (13, false), (14, false)]) kk kk (fun _ d _ _ _ h => by cases d <;> exact h) kk (fun w73 e74 s75 => ?_)
  have ho76 := own_heap ho60 e74
  have ho77 := own_heap ho51 e74
  refine Fv (.slice (some ⟨g19, 0, none⟩) n12 c13) ?_
  refine Fq (.pointer (some ⟨g19, 0, none⟩)) (r_idx0 (n := n12) (c := c13) (k := 0) rfl ek kk kk (by omega)) ?_
  refine Fl (.string x34) (sgS (own_atS ho60 hx35) (by simp)) ?_
  refine Fv (.slice (some ⟨g19, 0, none⟩) n12 c13) ?_
  refine Fq (.pointer (some ⟨g19, 0, none⟩)) (r_idx0 (n := n12) (c := c13) (k := 0) rfl ek kk kk (by omega)) ?_
  refine Fl (.string x34) (sgS (own_atS ho60 hx35) (by simp)) ?_
  refine Fq (.int .i64 ((x34.size : Nat) : Int)) (r_lenS (s := x34) rfl ek kk) ?_
  refine Fq (.int .i64 ((x34.size - 1 : Nat) : Int)) (r_sub (m := ((x34.size : Nat) : Int)) (n := 1) (z := ((x34.size - 1 : Nat) : Int)) rfl ek ek (by omega) (by omega)) ?_
  refine Fq (.string (x34.extract 0 (x34.size - 1))) (r_toS (s := x34) (h := x34.size - 1) rfl ek ek kk (by omega)) ?_
  refine Fc [.string (x34.extract 0 (x34.size - 1))] (l1Read_any (x34.extract 0 (x34.size - 1)) _ (Nl (ext_le _ _ _) (by omega))) ?_
  rintro e w79 ⟨rfl, b78⟩
  have s80 := SG.of_below s75 b78
  refine ⟨_, rfl, s80, ?_⟩
  apply F.nx
  have ho81 := own_kept ho76 b78
  have ho82 := own_kept ho77 b78
  refine Fv (.tuple #[.int .i64 (ParseInt_v0 (x34.extract 0 (x34.size - 1))), .bool (ParseInt_v1 (x34.extract 0 (x34.size - 1)))]) ?_
  refine Fq (.int .i64 (ParseInt_v0 (x34.extract 0 (x34.size - 1)))) (r_extract (vs := #[.int .i64 (ParseInt_v0 (x34.extract 0 (x34.size - 1))), .bool (ParseInt_v1 (x34.extract 0 (x34.size - 1)))]) rfl ek kk) ?_
  refine Fq (.bool (ParseInt_v1 (x34.extract 0 (x34.size - 1)))) (r_extract (vs := #[.int .i64 (ParseInt_v0 (x34.extract 0 (x34.size - 1))), .bool (ParseInt_v1 (x34.extract 0 (x34.size - 1)))]) rfl ek kk) ?_
  refine Fa (.int .i64 (ParseInt_v0 (x34.extract 0 (x34.size - 1)))) ?_
  refine Fa (.bool (ParseInt_v1 (x34.extract 0 (x34.size - 1)))) ?_
  apply F.es
  have x6 := Sk s80 x6 onn
  have c83 := (Sb c63 s80 nkk)
  apply h11
  refine wk fun K12 h12 => ?_
  refine W.region_plain (row := none) [(0, false), (1, false), (2, false), (3, true), (4, false), (5, false), (6, false), (7, false), (8, false)] kk ?_
  have s84 := SG.self w79 none
  refine Fv (.slice (some ⟨g55, 0, none⟩) n48 c49) ?_
  refine Fq (.pointer (some ⟨g55, 0, none⟩)) (r_idx0 (n := n48) (c := c49) (k := 0) rfl ek kk kk (by omega)) ?_
  obtain ⟨x85, hx86⟩ := get_of (zs := (splitL x45 45)) (k := 0) (by have h9 := own_len ho82; rw [strs_len] at h9; omega)
  have hx85 := split_part (c := 45) (by omega) hx86
  refine Fl (.string x85) (sgS (own_atS ho82 hx86) (by simp)) ?_
  refine Fc [.string x85] (l1Read_any x85 _ (by omega)) ?_
  rintro e w88 ⟨rfl, b87⟩
  have s89 := SG.of_below s84 b87
  refine ⟨_, rfl, s89, ?_⟩
  apply F.nx
  have ho90 := own_kept ho81 b87
  have ho91 := own_kept ho82 b87
  refine Fv (.tuple #[.int .i64 (ParseInt_v0 x85), .bool (ParseInt_v1 x85)]) ?_
  refine Fq (.int .i64 (ParseInt_v0 x85)) (r_extract (vs := #[.int .i64 (ParseInt_v0 x85), .bool (ParseInt_v1 x85)]) rfl ek kk) ?_
  refine Fq (.bool (ParseInt_v1 x85)) (r_extract (vs := #[.int .i64 (ParseInt_v0 x85), .bool (ParseInt_v1 x85)]) rfl ek kk) ?_
  refine Fa (.int .i64 (ParseInt_v0 x85)) ?_
  refine Fa (.bool (ParseInt_v1 x85)) ?_
  apply F.es
  have x6 := Sk s89 x6 onn
  have c92 := (Sb c83 s89 nkk)
  apply h12
  as_aux_lemma =>
   refine wk fun K13 h13 => ?_
   refine W.region_plain (row := none) [(0, false), (1, false), (2, false), (3, true), (4, false), (5, false), (6, false), (7, false), (8, false)] kk ?_
   have s93 := SG.self w88 none
   refine Fv (.slice (some ⟨g55, 0, none⟩) n48 c49) ?_
   refine Fq (.pointer (some ⟨g55, 1, none⟩)) (r_idx0 (n := n48) (c := c49) (k := 1) rfl ek kk kk (by omega)) ?_
   obtain ⟨x94, hx95⟩ := get_of (zs := (splitL x45 45)) (k := 1) (by have h9 := own_len ho91; rw [strs_len] at h9; omega)
   have hx94 := split_part (c := 45) (by omega) hx95
   refine Fl (.string x94) (sgS (own_atS ho91 hx95) (by simp)) ?_
   refine Fc [.string x94] (l1Read_any x94 _ (by omega)) ?_
   rintro e w97 ⟨rfl, b96⟩
   have s98 := SG.of_below s93 b96
   refine ⟨_, rfl, s98, ?_⟩
   apply F.nx
   have ho99 := own_kept ho90 b96
   refine Fv (.tuple #[.int .i64 (ParseInt_v0 x94), .bool (ParseInt_v1 x94)]) ?_
   refine Fq (.int .i64 (ParseInt_v0 x94)) (r_extract (vs := #[.int .i64 (ParseInt_v0 x94), .bool (ParseInt_v1 x94)]) rfl ek kk) ?_
   refine Fq (.bool (ParseInt_v1 x94)) (r_extract (vs := #[.int .i64 (ParseInt_v0 x94), .bool (ParseInt_v1 x94)]) rfl ek kk) ?_
   refine Fa (.int .i64 (ParseInt_v0 x94)) ?_
   refine Fa (.bool (ParseInt_v1 x94)) ?_
   apply F.es
   have x6 := Sk s98 x6 onn
   have c101 := (Sb c92 s98 nkk)
   apply h13
   refine wk fun K14 h14 => ?_
   refine W.region_plain (row := none) [(0, false), (1, false), (2, false), (3, true), (4, false), (5, false), (6, false), (7, false), (8, false)] kk ?_
   have s102 := SG.self w97 none
   refine Fv (.slice (some ⟨g19, 0, none⟩) n12 c13) ?_
   refine Fq (.pointer (some ⟨g19, 3, none⟩)) (r_idx0 (n := n12) (c := c13) (k := 3) rfl ek kk kk (by omega)) ?_
   obtain ⟨x103, hx104⟩ := get_of (zs := (splitL s 32)) (k := 3) (by have h9 := own_len ho99; rw [strs_len] at h9; omega)
   have hx103 := split_part (c := 32) (by omega) hx104
   refine Fl (.string x103) (sgS (own_atS ho99 hx104) (by simp)) ?_
   refine Fc [.string x103] (l1Read_any x103 _ (by omega)) ?_
   rintro e w106 ⟨rfl, b105⟩
   have s107 := SG.of_below s102 b105
   refine ⟨_, rfl, s107, ?_⟩
   apply F.nx
   refine Fv (.tuple #[.int .i64 (ParseInt_v0 x103), .bool (ParseInt_v1 x103)]) ?_
   refine Fq (.int .i64 (ParseInt_v0 x103)) (r_extract (vs := #[.int .i64 (ParseInt_v0 x103), .bool (ParseInt_v1 x103)]) rfl ek kk) ?_
   refine Fq (.bool (ParseInt_v1 x103)) (r_extract (vs := #[.int .i64 (ParseInt_v0 x103), .bool (ParseInt_v1 x103)]) rfl ek kk) ?_
   refine Fa (.int .i64 (ParseInt_v0 x103)) ?_
   refine Fa (.bool (ParseInt_v1 x103)) ?_
   apply F.es
   have x6 := Sk s107 x6 onn
   have c110 := (Sb c101 s107 nkk)
   apply h14
   refine wk fun K15 h15 => ?_
   refine W.region_plain (row := (some b2)) [(0, false), (1, false), (2, false), (3, false), (4, false), (5, false), (6, false), (7, false), (8, false), (9, false), (10, false), (11, false), (12, false), (13, false), (14, false), (15, true), (16, false)] kk ?_
   have s111 := SG.self w106 (some b2)
   refine Fv (.int .i64 (ParseInt_v0 (x34.extract 0 (x34.size - 1)))) ?_
   refine Fv (.int .i64 (ParseInt_v0 x85)) ?_
   refine Fv (.int .i64 (ParseInt_v0 x94)) ?_
   refine Fv (.int .i64 (ParseInt_v0 x103)) ?_
   refine Fq (.agg #[.int .i64 (ParseInt_v0 (x34.extract 0 (x34.size - 1))), .int .i64 (ParseInt_v0 x85), .int .i64 (ParseInt_v0 x94), .int .i64 (ParseInt_v0 x103)]) (r_build rfl (vs := [(0, .int .i64 (ParseInt_v0 (x34.extract 0 (x34.size - 1)))), (1, .int .i64 (ParseInt_v0 x85)), (2, .int .i64 (ParseInt_v0 x94)), (3, .int .i64 (ParseInt_v0 x103))]) kk kk) ?_
   refine Fv (.bool (ParseInt_v1 (x34.extract 0 (x34.size - 1)))) ?_
   refine Fv (.bool (ParseInt_v1 (x34.extract 0 (x34.size - 1)))) ?_
   rcases Bool.eq_false_or_eq_true (ParseInt_v1 (x34.extract 0 (x34.size - 1))) with q112 | q112
   ·rw [q112]
    refine Fv (.bool (ParseInt_v1 x85)) ?_
    refine Fq (.bool (ParseInt_v1 x85)) (r_pick (b := true) rfl ek ek) ?_
    refine Fv (.bool (ParseInt_v1 x85)) ?_
    rcases Bool.eq_false_or_eq_true (ParseInt_v1 x85) with q113 | q113
    ·rw [q113]
     refine Fv (.bool (ParseInt_v1 x94)) ?_
     refine Fq (.bool (ParseInt_v1 x94)) (r_pick (b := true) rfl ek ek) ?_
     refine Fv (.bool (ParseInt_v1 x94)) ?_
     rcases Bool.eq_false_or_eq_true (ParseInt_v1 x94) with q114 | q114
     ·rw [q114]
      refine Fv (.bool (ParseInt_v1 x103)) ?_
      refine Fq (.bool (ParseInt_v1 x103)) (r_pick (b := true) rfl ek ek) ?_
      refine W.ss (v := .agg #[.int .i64 (ParseInt_v0 (x34.extract 0 (x34.size - 1))), .int .i64 (ParseInt_v0 x85), .int .i64 (ParseInt_v0 x94), .int .i64 (ParseInt_v0 x103)]) (j := 0) (news := [.int .i64 (ParseInt_v0 (x34.extract 0 (x34.size - 1))), .int .i64 (ParseInt_v0 x85), .int .i64 (ParseInt_v0 x94), .int .i64 (ParseInt_v0 x103)]) (cs' := #[.int .i64 (ParseInt_v0 (x34.extract 0 (x34.size - 1))), .int .i64 (ParseInt_v0 x85), .int .i64 (ParseInt_v0 x94), .int .i64 (ParseInt_v0 x103)]) s111 rfl kk rfl rfl kk kk x6 kk kk (by simp) kk kk (.inl rfl) (fun w115 g116 x117 s118 => ?_)
      refine Fa (.bool (ParseInt_v1 x103)) ?_
      apply F.es
      have c121 := (Sb c110 s118 (fun kq e => by cases e; exact lo8))
      apply h15
      as_aux_lemma =>
       refine wp_ret ?_
       try simp only [Exit.then]
       refine retCT (x := .bool (ParseInt_v1 x103)) rfl kk kk kk kk x117 ?_
       have hbb : (ParseInt_v1 (x34.extract 0 (x34.size - 1)) && (ParseInt_v1 x85 && (ParseInt_v1 x94 && ParseInt_v1 x103))) = (ParseInt_v1 x103) := by rw [q112, q113, q114]; try rfl
       exact ⟨⟨(ParseInt_v0 (x34.extract 0 (x34.size - 1))), (ParseInt_v0 x85), (ParseInt_v0 x94), (ParseInt_v0 x103)⟩, _, rfl, line_rel hx35 hx46 hx104 hx86 hx95 hbb, c121⟩
     rw [q114]
     refine Fs s111 ?_
     refine Fq (.bool false) (r_pick (b := false) rfl ek ek) ?_
     refine W.ss (v := .agg #[.int .i64 (ParseInt_v0 (x34.extract 0 (x34.size - 1))), .int .i64 (ParseInt_v0 x85), .int .i64 (ParseInt_v0 x94), .int .i64 (ParseInt_v0 x103)]) (j := 0) (news := [.int .i64 (ParseInt_v0 (x34.extract 0 (x34.size - 1))), .int .i64 (ParseInt_v0 x85), .int .i64 (ParseInt_v0 x94), .int .i64 (ParseInt_v0 x103)]) (cs' := #[.int .i64 (ParseInt_v0 (x34.extract 0 (x34.size - 1))), .int .i64 (ParseInt_v0 x85), .int .i64 (ParseInt_v0 x94), .int .i64 (ParseInt_v0 x103)]) s111 rfl kk rfl rfl kk kk x6 kk kk (by simp) kk kk (.inl rfl) (fun w122 g123 x124 s125 => ?_)
     refine Fa (.bool false) ?_
     apply F.es
     have c128 := (Sb c110 s125 (fun kq e => by cases e; exact lo8))
     apply h15
     refine wp_ret ?_
     try simp only [Exit.then]
     refine retCT (x := .bool false) rfl kk kk kk kk x124 ?_
     have hbb : (ParseInt_v1 (x34.extract 0 (x34.size - 1)) && (ParseInt_v1 x85 && (ParseInt_v1 x94 && ParseInt_v1 x103))) = false := by rw [q112, q113, q114]; try rfl
     exact ⟨⟨(ParseInt_v0 (x34.extract 0 (x34.size - 1))), (ParseInt_v0 x85), (ParseInt_v0 x94), (ParseInt_v0 x103)⟩, _, rfl, line_rel hx35 hx46 hx104 hx86 hx95 hbb, c128⟩
    rw [q113]
    refine Fs s111 ?_
    refine Fq (.bool false) (r_pick (b := false) rfl ek ek) ?_
    refine Fv (.bool false) ?_
    refine Fs s111 ?_
    refine Fq (.bool false) (r_pick (b := false) rfl ek ek) ?_
    refine W.ss (v := .agg #[.int .i64 (ParseInt_v0 (x34.extract 0 (x34.size - 1))), .int .i64 (ParseInt_v0 x85), .int .i64 (ParseInt_v0 x94), .int .i64 (ParseInt_v0 x103)]) (j := 0) (news := [.int .i64 (ParseInt_v0 (x34.extract 0 (x34.size - 1))), .int .i64 (ParseInt_v0 x85), .int .i64 (ParseInt_v0 x94), .int .i64 (ParseInt_v0 x103)]) (cs' := #[.int .i64 (ParseInt_v0 (x34.extract 0 (x34.size - 1))), .int .i64 (ParseInt_v0 x85), .int .i64 (ParseInt_v0 x94), .int .i64 (ParseInt_v0 x103)]) s111 rfl kk rfl rfl kk kk x6 kk kk (by simp) kk kk (.inl rfl) (fun w129 g130 x131 s132 => ?_)
    refine Fa (.bool false) ?_
    apply F.es
    have c135 := (Sb c110 s132 (fun kq e => by cases e; exact lo8))
    apply h15
    refine wp_ret ?_
    try simp only [Exit.then]
    refine retCT (x := .bool false) rfl kk kk kk kk x131 ?_
    have hbb : (ParseInt_v1 (x34.extract 0 (x34.size - 1)) && (ParseInt_v1 x85 && (ParseInt_v1 x94 && ParseInt_v1 x103))) = false := by rw [q112, q113]; try rfl
    exact ⟨⟨(ParseInt_v0 (x34.extract 0 (x34.size - 1))), (ParseInt_v0 x85), (ParseInt_v0 x94), (ParseInt_v0 x103)⟩, _, rfl, line_rel hx35 hx46 hx104 hx86 hx95 hbb, c135⟩
   rw [q112]
   refine Fs s111 ?_
   refine Fq (.bool false) (r_pick (b := false) rfl ek ek) ?_
   refine Fv (.bool false) ?_
   refine Fs s111 ?_
   refine Fq (.bool false) (r_pick (b := false) rfl ek ek) ?_
   refine Fv (.bool false) ?_
   refine Fs s111 ?_
   refine Fq (.bool false) (r_pick (b := false) rfl ek ek) ?_
   refine W.ss (v := .agg #[.int .i64 (ParseInt_v0 (x34.extract 0 (x34.size - 1))), .int .i64 (ParseInt_v0 x85), .int .i64 (ParseInt_v0 x94), .int .i64 (ParseInt_v0 x103)]) (j := 0) (news := [.int .i64 (ParseInt_v0 (x34.extract 0 (x34.size - 1))), .int .i64 (ParseInt_v0 x85), .int .i64 (ParseInt_v0 x94), .int .i64 (ParseInt_v0 x103)]) (cs' := #[.int .i64 (ParseInt_v0 (x34.extract 0 (x34.size - 1))), .int .i64 (ParseInt_v0 x85), .int .i64 (ParseInt_v0 x94), .int .i64 (ParseInt_v0 x103)]) s111 rfl kk rfl rfl kk kk x6 kk kk (by simp) kk kk (.inl rfl) (fun w136 g137 x138 s139 => ?_)
   refine Fa (.bool false) ?_
   apply F.es
   have c142 := (Sb c110 s139 (fun kq e => by cases e; exact lo8))
   apply h15
   refine wp_ret ?_
   try simp only [Exit.then]
   refine retCT (x := .bool false) rfl kk kk kk kk x138 ?_
   have hbb : (ParseInt_v1 (x34.extract 0 (x34.size - 1)) && (ParseInt_v1 x85 && (ParseInt_v1 x94 && ParseInt_v1 x103))) = false := by rw [q112]; try rfl
   exact ⟨⟨(ParseInt_v0 (x34.extract 0 (x34.size - 1))), (ParseInt_v0 x85), (ParseInt_v0 x94), (ParseInt_v0 x103)⟩, _, rfl, line_rel hx35 hx46 hx104 hx86 hx95 hbb, c142⟩
def Ora (s : ByteArray) (i : Nat) (nd : Int) (okb : Bool) (pl : List Pp) : Prop := ∀ m ps, goodN m ps = true → textN m ps = s → nd = m ∧ okb = true ∧ pl = ps.take (i - 1)
theorem ora_len {s : ByteArray} {m : Int} {ps : List Pp} (e : textN m ps = s) : (splitL s 10).length = ps.length + 2 := by
  rw [← e, split_text]; simp
theorem ora_first {s x0 : ByteArray} {m : Int} {ps : List Pp} (h0 : (splitL s 10)[0]? = some x0) (e : textN m ps = s) : x0 = headOf m := by
  rw [← e, split_text] at h0
  exact (Option.some.inj h0).symm
theorem ora_first2 {s x0 : ByteArray} {m : Int} {ps : List Pp} (h0 : (splitL s 10)[0]? = some x0) (e : textN m ps = s) : (splitL x0 32).length = 2 := by
  rw [ora_first h0 e, split_head]; rfl
theorem ora_start {s x0 x1 : ByteArray} (h0 : (splitL s 10)[0]? = some x0) (h1 : (splitL x0 32)[1]? = some x1) : Ora s 1 (ParseInt_v0 x1) (ParseInt_v1 x1) [] := fun m ps hg e => by
  rw [ora_first h0 e, split_head] at h1
  obtain rfl := Option.some.inj h1
  have g := good_of hg
  have a := num_yes (s := itoaB m) (m := m) (by have := g.lo; have := g.hi; omega) rfl
  exact ⟨a.2, a.1, by simp⟩
theorem ora_next {s x : ByteArray} {i : Nat} {nd : Int} {okb b b2 : Bool} {pl : List Pp} {p : Pp} (h : Ora s i nd okb pl) (hi : 1 ≤ i) (hl : i + 1 < (splitL s 10).length) (hx : (splitL s 10)[i]? = some x) (hr : lineRel x p b) (hb : (okb && b) = b2) : Ora s (i + 1) nd b2 (pl ++ [p]) := fun m ps hg e => by
  obtain ⟨h1, h2, h3⟩ := h m ps hg e
  have hlen := ora_len e
  obtain ⟨k, rfl⟩ : ∃ k, i = k + 1 := ⟨i - 1, by omega⟩
  rw [← e, split_text, List.getElem?_cons_succ, List.getElem?_append_left (by rw [List.length_map]; omega), List.getElem?_map] at hx
  have hk : k < ps.length := by omega
  rw [List.getElem?_eq_getElem hk] at hx
  have hx' := Option.some.inj hx
  obtain ⟨r1, r2⟩ := hr ps[k] (good_okP hg (List.getElem_mem hk)) hx'.symm
  refine ⟨h1, by rw [← hb, h2, r2]; rfl, ?_⟩
  rw [h3, r1]
  show ps.take k ++ [ps[k]] = ps.take (k + 1)
  rw [List.take_add_one, List.getElem?_eq_getElem hk]; rfl
theorem ora_end {s : ByteArray} {i : Nat} {nd : Int} {okb : Bool} {pl : List Pp} (h : Ora s i nd okb pl) (hi : (splitL s 10).length ≤ i + 1) : ∀ m ps, goodN m ps = true → textN m ps = s → nd = m ∧ okb = true ∧ pl = ps := fun m ps hg e => by
  obtain ⟨h1, h2, h3⟩ := h m ps hg e
  have := ora_len e
  exact ⟨h1, h2, by rw [h3, List.take_of_length_le (by omega)]⟩
theorem itoa2 : ∀ u : Fin 100, (Lib.decDigits u.val).length ≤ 2 := by decide +kernel
theorem itoa_short {n : Int} (h0 : 0 ≤ n) (h1 : n ≤ 99) : (itoaB n).size ≤ 2 := by
  obtain ⟨k, rfl⟩ := Int.eq_ofNat_of_zero_le h0
  rw [itoaB_size]
  have e : Lib.itoa (k : Int) = Lib.decDigits k := by unfold Lib.itoa; rw [if_neg (by omega)]; simp
  rw [e]
  exact itoa2 ⟨k, by omega⟩
theorem text_short {m : Int} {ps : List Pp} (hg : goodN m ps = true) : (textN m ps).size ≤ 250 := by
  have g := good_of hg
  have key : ∀ (r : List Pp) (x : ByteArray), (∀ p ∈ r, p ∈ ps) → (r.foldl (fun s p => s ++ lineB p) x).size ≤ x.size + 18 * r.length := by
    intro r
    induction r with
    | nil => intro x _; exact Nat.le_refl _
    | cons p r ih =>
      intro x hp
      have h1 := ih (x ++ lineB p) (fun q hq => hp q (List.mem_cons_of_mem _ hq))
      have h2 := g.pipe (hp p (List.mem_cons_self ..))
      have h3 := g.hi
      have h4 : (lineB p).size ≤ 18 := by
        unfold lineB
        simp only [ByteArray.size_append, size1, sz2, sz6]
        have := itoa_short (n := p.id) (by omega) (by omega)
        have := itoa_short (n := p.fr) (by omega) (by omega)
        have := itoa_short (n := p.to) (by omega) (by omega)
        have := itoa_short (n := p.sz) (by omega) (by omega)
        omega
      rw [List.foldl_cons, List.length_cons]
      rw [ByteArray.size_append] at h1
      omega
  have h := key ps ((⟨#[110, 111, 100, 101, 115, 32]⟩ : ByteArray) ++ itoaB m ++ (⟨#[10]⟩ : ByteArray)) (fun p hp => hp)
  have h5 := itoa_short (n := m) (by have := g.lo; omega) (by have := g.hi; omega)
  simp only [ByteArray.size_append, size1, sz6] at h
  have := g.len
  unfold textN
  omega
set_option maxRecDepth 100000 in
set_option maxHeartbeats 1000000 in
theorem l2Parse_any (s : ByteArray) (w : World) (hs : s.size ≤ 1048576) :
    Calls Tryd.prog 37 #[.string s] w fun e w' => ∃ A' d, e = .returned (.tuple #[.agg #[.int .i64 (ParseNetwork_v0m s), .slice A' (ParseNetwork_v0 s).length d], .bool (ParseNetwork_v1 s)]) ∧ w'.ownsRow w.heap.size 38 4 (.slice A' (ParseNetwork_v0 s).length d) (ParseNetwork_v0 s).length (pipesV (ParseNetwork_v0 s)) ∧ Below w.heap.size w w' := by
 go_enter Tryd.func37, Tryd.ntmps37
 refine F.begin 82 [(0, .string s)] (fun U0 => ?_)
 refine wk fun K1 h1 => ?_
 refine W.region_plain (row := none) [(0, true), (1, false)] kk ?_
 have s1 := SG.self w none
 refine W.sn (fun b => .pointer (some ⟨b, 0, none⟩)) #[.int .i64 0, .slice none 0 0] 24 s1 rfl kk rfl (fun _ => by kernel_rfl) (fun b2 w3 hb4 k5 x6 s7 => ?_)
 apply F.nx
 have lo8 : w.heap.size ≤ b2 := Nl ((Sb (Below.refl _ _) s1 nkk)).size (Nat.le_of_eq hb4)
 refine Fa (.bool false) ?_
 apply F.es
 have c9 := (Sb (Below.refl _ _) s7 nkk)
 apply h1
 refine wk fun K2 h2 => ?_
 refine W.region_plain (row := none) [(0, false), (1, true), (2, false)] kk ?_
 have s10 := SG.self w3 none
 refine Fv (.string s) ?_
 have lb20 := (Nat.lt_of_lt_of_le (blk_lt x6) (s10).size)
 have z16 := ((Sb c9 s10 nkk)).size
 refine Fc [.string s, .int .u8 10] (l1Split_any s 10 _ (by omega)) ?_
 rintro e w22 ⟨A11, n12, c13, rfl, ho14, b21⟩
 have s23 := SG.of_below s10 b21
 refine ⟨_, rfl, s23, ?_⟩
 apply F.nx
 have ho15 := own_base (base' := w.heap.size) ho14 z16
 have hl18 := rd_strs_len (own_rd ho15)
 have hl18p := splitL_pos s 10
 have hl18q := splitL_len s 10
 obtain ⟨g19, rfl, _, _⟩ := own_addr ho15 (by omega)
 refine Fa (.slice (some ⟨g19, 0, none⟩) n12 c13) ?_
 apply F.es
 have x6 := Sk s23 x6 onn
 have c25 := (Sb c9 s23 nkk)
 apply h2
 refine wk fun K3 h3 => ?_
 refine W.region_plain (row := none) [(0, false), (1, false), (2, false), (3, true), (4, false)] kk ?_
 have s26 := SG.self w22 none
 refine Fv (.slice (some ⟨g19, 0, none⟩) n12 c13) ?_
 refine Fq (.pointer (some ⟨g19, 0, none⟩)) (r_idx0 (n := n12) (c := c13) (k := 0) rfl ek kk kk (by omega)) ?_
 obtain ⟨x27, hx28⟩ := get_of (zs := (splitL s 10)) (k := 0) (by have h9 := own_len ho15; rw [strs_len] at h9; omega)
 have hx27 := split_part (c := 10) (by omega) hx28
 refine Fl (.string x27) (sgS (own_atS ho15 hx28) (by simp)) ?_
 have lb38 := (Nat.lt_of_lt_of_le (blk_lt x6) (s26).size)
 have z34 := ((Sb c25 s26 nkk)).size
 refine Fc [.string x27, .int .u8 32] (l1Split_any x27 32 _ (by omega)) ?_
 rintro e w40 ⟨A29, n30, c31, rfl, ho32, b39⟩
 have s41 := SG.of_below s26 b39
 refine ⟨_, rfl, s41, ?_⟩
 apply F.nx
 have ho42 := own_kept ho15 b39
 have ho33 := own_base (base' := w.heap.size) ho32 z34
 have hl36 := rd_strs_len (own_rd ho33)
 have hl36p := splitL_pos x27 32
 have hl36q := splitL_len x27 32
 obtain ⟨g37, rfl, _, _⟩ := own_addr ho33 (by omega)
 refine Fa (.slice (some ⟨g37, 0, none⟩) n30 c31) ?_
 apply F.es
 have x6 := Sk s41 x6 onn
 have c45 := (Sb c25 s41 nkk)
 apply h3
 as_aux_lemma =>
  refine wk fun K4 h4 => ?_
  refine wk fun K5 h5 => ?_
  refine Rq 13 ?_
  refine Fv (.string s) ?_
  refine Fq (.int .i64 ((s.size : Nat) : Int)) (r_lenS (s := s) rfl ek kk) ?_
  by_cases q46 : (((s.size : Nat) : Int) : Int) > (300 : Int)
  ·refine Fq (.bool true) (r_gtr (m := ((s.size : Nat) : Int)) (n := 300) rfl ek ek (dt q46)) ?_
   refine Fv (.bool true) ?_
   refine Fs rfl ?_
   refine Fs rfl ?_
   refine Fs rfl ?_
   refine Fq (.bool true) (r_pick (b := true) rfl ek ek) ?_
   refine Fv (.bool true) ?_
   refine Fs rfl ?_
   refine Fs rfl ?_
   refine Fs rfl ?_
   refine Fq (.bool true) (r_pick (b := true) rfl ek ek) ?_
   apply F.es
   apply h5
   refine wp_cond_true ek ?_
   refine wk fun K6 h6 => ?_
   refine W.region_plain (row := (some b2)) [(0, false), (1, true), (2, false)] kk ?_
   have s47 := SG.self w40 (some b2)
   refine Fq (.agg #[.int .i64 0, .slice none 0 0]) (r_build rfl (vs := []) kk kk) ?_
   refine W.ss (v := .agg #[.int .i64 0, .slice none 0 0]) (j := 0) (news := [.int .i64 0, .slice none 0 0]) (cs' := #[.int .i64 0, .slice none 0 0]) s47 rfl kk rfl rfl kk kk x6 kk kk (by simp) kk kk (.inl rfl) (fun w48 g49 x50 s51 => ?_)
   refine Fa (.bool false) ?_
   apply F.es
   have c54 := (Sb c45 s51 (fun kq e => by cases e; exact lo8))
   apply h6
   refine wp_ret ?_
   try simp only [Exit.then]
   refine retCT (x := .bool false) rfl kk kk kk kk x50 ?_
   have hpn := pn_no (s := s) (fun m ps h1 h2 => by have h9 := text_short h1; rw [h2] at h9; have h8 := ora_len h2; have h7 := ora_first2 hx28 h2; omega)
   exact fin_net (zs := []) (World.ownsRow_nil _ _ _ _) hpn.2.2.symm hpn.2.1.symm hpn.1.symm c54
  refine Fq (.bool false) (r_gtr (m := ((s.size : Nat) : Int)) (n := 300) rfl ek ek (df q46)) ?_
  refine Fv (.bool false) ?_
  refine Fv (.slice (some ⟨g19, 0, none⟩) n12 c13) ?_
  refine Fq (.int .i64 (n12 : Int)) (r_len (A := (some ⟨g19, 0, none⟩)) (n := n12) (c := c13) rfl ek kk) ?_
  by_cases q55 : ((n12 : Int) : Int) < (2 : Int)
  ·refine Fq (.bool true) (r_lss (m := (n12 : Int)) (n := 2) rfl ek ek (dt q55)) ?_
   refine Fq (.bool true) (r_pick (b := false) rfl ek ek) ?_
   refine Fv (.bool true) ?_
   refine Fs rfl ?_
   refine Fs rfl ?_
   refine Fs rfl ?_
   refine Fq (.bool true) (r_pick (b := true) rfl ek ek) ?_
   apply F.es
   apply h5
   refine wp_cond_true ek ?_
   refine wk fun K7 h7 => ?_
   refine W.region_plain (row := (some b2)) [(0, false), (1, true), (2, false)] kk ?_
   have s56 := SG.self w40 (some b2)
   refine Fq (.agg #[.int .i64 0, .slice none 0 0]) (r_build rfl (vs := []) kk kk) ?_
   refine W.ss (v := .agg #[.int .i64 0, .slice none 0 0]) (j := 0) (news := [.int .i64 0, .slice none 0 0]) (cs' := #[.int .i64 0, .slice none 0 0]) s56 rfl kk rfl rfl kk kk x6 kk kk (by simp) kk kk (.inl rfl) (fun w57 g58 x59 s60 => ?_)
   refine Fa (.bool false) ?_
   apply F.es
   have c63 := (Sb c45 s60 (fun kq e => by cases e; exact lo8))
   apply h7
   as_aux_lemma =>
    refine wp_ret ?_
    try simp only [Exit.then]
    refine retCT (x := .bool false) rfl kk kk kk kk x59 ?_
    have hpn := pn_no (s := s) (fun m ps h1 h2 => by have h9 := text_short h1; rw [h2] at h9; have h8 := ora_len h2; have h7 := ora_first2 hx28 h2; omega)
    exact fin_net (zs := []) (World.ownsRow_nil _ _ _ _) hpn.2.2.symm hpn.2.1.symm hpn.1.symm c63
  refine Fq (.bool false) (r_lss (m := (n12 : Int)) (n := 2) rfl ek ek (df q55)) ?_
  refine Fq (.bool false) (r_pick (b := false) rfl ek ek) ?_
  refine Fv (.bool false) ?_
  refine Fv (.slice (some ⟨g37, 0, none⟩) n30 c31) ?_
  refine Fq (.int .i64 (n30 : Int)) (r_len (A := (some ⟨g37, 0, none⟩)) (n := n30) (c := c31) rfl ek kk) ?_
  by_cases q64 : ((n30 : Int) : Int) ≠ (2 : Int)
  ·refine Fq (.bool true) (r_neq (m := (n30 : Int)) (n := 2) rfl ek ek (dt q64)) ?_
   refine Fq (.bool true) (r_pick (b := false) rfl ek ek) ?_
   apply F.es
   apply h5
   refine wp_cond_true ek ?_
   refine wk fun K8 h8 => ?_
   refine W.region_plain (row := (some b2)) [(0, false), (1, true), (2, false)] kk ?_
   have s65 := SG.self w40 (some b2)
   refine Fq (.agg #[.int .i64 0, .slice none 0 0]) (r_build rfl (vs := []) kk kk) ?_
   refine W.ss (v := .agg #[.int .i64 0, .slice none 0 0]) (j := 0) (news := [.int .i64 0, .slice none 0 0]) (cs' := #[.int .i64 0, .slice none 0 0]) s65 rfl kk rfl rfl kk kk x6 kk kk (by simp) kk kk (.inl rfl) (fun w66 g67 x68 s69 => ?_)
   refine Fa (.bool false) ?_
   apply F.es
   have c72 := (Sb c45 s69 (fun kq e => by cases e; exact lo8))
   apply h8
   refine wp_ret ?_
   try simp only [Exit.then]
   refine retCT (x := .bool false) rfl kk kk kk kk x68 ?_
   have hpn := pn_no (s := s) (fun m ps h1 h2 => by have h9 := text_short h1; rw [h2] at h9; have h8 := ora_len h2; have h7 := ora_first2 hx28 h2; omega)
   exact fin_net (zs := []) (World.ownsRow_nil _ _ _ _) hpn.2.2.symm hpn.2.1.symm hpn.1.symm c72
  refine Fq (.bool false) (r_neq (m := (n30 : Int)) (n := 2) rfl ek ek (df q64)) ?_
  refine Fq (.bool false) (r_pick (b := false) rfl ek ek) ?_
  apply F.es
  apply h5
  refine wp_cond_false ek ?_
  apply wp_skip
  apply h4
  refine wk fun K9 h9 => ?_
  refine W.region_plain (row := none) [(0, false), (1, false), (2, false), (3, true), (4, false), (5, false), (6, false), (7, false), (8, false)] kk ?_
  have s73 := SG.self w40 none
  refine Fv (.slice (some ⟨g37, 0, none⟩) n30 c31) ?_
  refine Fq (.pointer (some ⟨g37, 1, none⟩)) (r_idx0 (n := n30) (c := c31) (k := 1) rfl ek kk kk (by omega)) ?_
  obtain ⟨x74, hx75⟩ := get_of (zs := (splitL x27 32)) (k := 1) (by have h9 := own_len ho33; rw [strs_len] at h9; omega)
  have hx74 := split_part (c := 32) (by omega) hx75
  refine Fl (.string x74) (sgS (own_atS ho33 hx75) (by simp)) ?_
  refine Fc [.string x74] (l1Read_any x74 _ (by omega)) ?_
  rintro e w77 ⟨rfl, b76⟩
  have s78 := SG.of_below s73 b76
  refine ⟨_, rfl, s78, ?_⟩
  apply F.nx
  have ho79 := own_kept ho42 b76
  refine Fv (.tuple #[.int .i64 (ParseInt_v0 x74), .bool (ParseInt_v1 x74)]) ?_
  refine Fq (.int .i64 (ParseInt_v0 x74)) (r_extract (vs := #[.int .i64 (ParseInt_v0 x74), .bool (ParseInt_v1 x74)]) rfl ek kk) ?_
  refine Fq (.bool (ParseInt_v1 x74)) (r_extract (vs := #[.int .i64 (ParseInt_v0 x74), .bool (ParseInt_v1 x74)]) rfl ek kk) ?_
  refine Fa (.int .i64 (ParseInt_v0 x74)) ?_
  refine Fa (.bool (ParseInt_v1 x74)) ?_
  apply F.es
  have x6 := Sk s78 x6 onn
  have c81 := (Sb c45 s78 nkk)
  apply h9
  as_aux_lemma =>
   refine wk fun K10 h10 => ?_
   refine W.region_plain (row := none) [(0, false), (1, true), (2, false), (3, true), (4, true)] kk ?_
   have s82 := SG.self w77 none
   refine Fv (.int .i64 (ParseInt_v0 x74)) ?_
   refine W.sn (fun b => .slice (some ⟨b, 0, none⟩) 0 0) #[] 38 s82 rfl kk rfl (fun _ => by kernel_rfl) (fun b83 w84 hb85 k86 x87 s88 => ?_)
   apply F.nx
   have lo89 : w.heap.size ≤ b83 := Nl ((Sb c81 s82 nkk)).size (Nat.le_of_eq hb85)
   have ne90 : b2 ≠ b83 := Nat.ne_of_lt (Nat.lt_of_lt_of_eq (Nat.lt_of_lt_of_le (blk_lt x6) (s82).size) hb85)
   have nb91 : Nb b83 (.slice (some ⟨g19, 0, none⟩) n12 c13) := nb_hi ho79 (Nat.le_of_eq hb85)
   have ho93 := own_kept ho79 k86
   refine Fq (.agg #[.int .i64 (ParseInt_v0 x74), .slice (some ⟨b83, 0, none⟩) 0 0]) (r_build rfl (vs := [(0, .int .i64 (ParseInt_v0 x74)), (1, .slice (some ⟨b83, 0, none⟩) 0 0)]) kk kk) ?_
   refine W.sn (fun b => .pointer (some ⟨b, 0, none⟩)) #[.int .i64 0, .slice none 0 0] 24 s88 rfl kk rfl (fun _ => by kernel_rfl) (fun b95 w96 hb97 k98 x99 s100 => ?_)
   apply F.nx
   have lo101 : w.heap.size ≤ b95 := Nl ((Sb c81 s88 nkk)).size (Nat.le_of_eq hb97)
   have ne102 : b2 ≠ b95 := Nat.ne_of_lt (Nat.lt_of_lt_of_eq (Nat.lt_of_lt_of_le (blk_lt x6) (s88).size) hb97)
   have ne103 : b83 ≠ b95 := Nat.ne_of_lt (Nat.lt_of_lt_of_eq (blk_lt x87) hb97)
   have nb104 : Nb b95 (.slice (some ⟨g19, 0, none⟩) n12 c13) := nb_hi ho93 (Nat.le_of_eq hb97)
   have x87 := (k98.block _ (blk_lt x87)).trans x87
   have ho106 := own_kept ho93 k98
   refine W.ss (v := .agg #[.int .i64 (ParseInt_v0 x74), .slice (some ⟨b83, 0, none⟩) 0 0]) (j := 0) (news := [.int .i64 (ParseInt_v0 x74), .slice (some ⟨b83, 0, none⟩) 0 0]) (cs' := #[.int .i64 (ParseInt_v0 x74), .slice (some ⟨b83, 0, none⟩) 0 0]) s100 rfl kk rfl rfl kk kk x99 kk kk (by simp) kk kk (.inr (Nl (s88).size (Nat.le_of_eq hb97))) (fun w108 g109 x110 s111 => ?_)
   have x87 := (g109.block _ (blk_lt x87) (fun e9 => ne103 (Option.some.inj e9))).trans x87
   have ho112 := own_grown ho106 g109 (fun j e1 e2 => by cases e2; exact nb104 e1.symm)
   apply F.es
   have x6 := Sk s111 x6 onn
   have c114 := (Sb c81 s111 nkk)
   apply h10
   refine wk fun K11 h11 => ?_
   refine wk fun K12 h12 => ?_
   refine Rq 1 ?_
   refine Fa (.int .i64 1) ?_
   apply F.es
   apply h12
   refine wp_block ?_
   have ho115 := own_empty (base := w.heap.size) (size := 4) x87 lo89
   replace ho115 : World.ownsRow _ _ _ _ _ _ (pipesV []) := ho115
   have nr116 : NbR (.slice (some ⟨b83, 0, none⟩) 0 0) (.slice (some ⟨g19, 0, none⟩) n12 c13) := nbr_new nb91
   have nb118 : Nb b2 (.slice (some ⟨b83, 0, none⟩) 0 0) := nb_new ne90
   have nb119 : Nb b95 (.slice (some ⟨b83, 0, none⟩) 0 0) := nb_new (Ne.symm ne103)
   refine loopK (fun am0 aa0 wl0 => ∃ (i : Nat) (okb : Bool) (pl : List Pp) (A0_c8_1 : Option Addr) (n0_c8_1 : Nat) (c0_c8_1 : Nat) , Kn aa0 [(0, .string s), (2, .pointer (some ⟨b2, 0, none⟩)), (3, .bool false), (4, .slice (some ⟨g19, 0, none⟩) n12 c13), (5, .slice (some ⟨g37, 0, none⟩) n30 c31), (6, .int .i64 (ParseInt_v0 x74)), (7, .bool okb), (8, .pointer (some ⟨b95, 0, none⟩)), (9, .int .i64 (i : Int)), (30, .bool false)] 82 ∧ (am0 = (splitL s 10).length - i) ∧ (1 ≤ i ∧ i + 1 ≤ (splitL s 10).length) ∧ (pl.length + 1 = i) ∧ (Ora s i (ParseInt_v0 x74) okb pl) ∧ (wl0.heap[b2]? = some (.cells #[.int .i64 0, .slice none 0 0] 24 (0, 0))) ∧ (wl0.heap[b95]? = some (.cells #[.int .i64 (ParseInt_v0 x74), .slice A0_c8_1 n0_c8_1 c0_c8_1] 24 (0, 0))) ∧ (wl0.ownsRow w.heap.size 9 1 (.slice (some ⟨g19, 0, none⟩) n12 c13) n12 (strsV (splitL s 10))) ∧ (wl0.ownsRow w.heap.size 38 4 (.slice A0_c8_1 n0_c8_1 c0_c8_1) n0_c8_1 (pipesV pl)) ∧ (Nb b2 (.slice A0_c8_1 n0_c8_1 c0_c8_1)) ∧ (Nb b95 (.slice A0_c8_1 n0_c8_1 c0_c8_1)) ∧ (NbR (.slice A0_c8_1 n0_c8_1 c0_c8_1) (.slice (some ⟨g19, 0, none⟩) n12 c13)) ∧ (Below w.heap.size w wl0)) ((splitL s 10).length - 1) ?_ ?_
   ·exact ⟨1, (ParseInt_v1 x74), [], (some ⟨b83, 0, none⟩), 0, 0, Kn.of, rfl, (⟨by omega, by omega⟩), rfl, (ora_start hx28 hx75), x6, x110, ho112, ho115, nb118, nb119, nr116, c114⟩
   rintro am0 aa0 wl0 K13 h13 ⟨i, okb, pl, A0_c8_1, n0_c8_1, c0_c8_1, ⟨U0, rfl⟩, rfl, hi, hpl, hor, x6, x110, ho0_4, ho0_c8_1, nb0_c8_1_b2, nb0_c8_1_b95, nr0_1_0, c120⟩
   have hl9 := rd_pipes_len (own_rd ho0_c8_1)
   refine wk fun K14 h14 => ?_
   refine wk fun K15 h15 => ?_
   refine Rq 5 ?_
   refine Fv (.int .i64 (i : Int)) ?_
   refine Fv (.slice (some ⟨g19, 0, none⟩) n12 c13) ?_
   refine Fq (.int .i64 (n12 : Int)) (r_len (A := (some ⟨g19, 0, none⟩)) (n := n12) (c := c13) rfl ek kk) ?_
   refine Fq (.int .i64 ((n12 : Int) - 1)) (r_sub (m := (n12 : Int)) (n := 1) (z := (n12 : Int) - 1) rfl ek ek (rfl) (by omega)) ?_
   by_cases q121 : ((i : Int) : Int) < ((n12 : Int) - 1 : Int)
   ·refine Fq (.bool true) (r_lss (m := (i : Int)) (n := (n12 : Int) - 1) rfl ek ek (dt q121)) ?_
    apply F.es
    apply h15
    refine wp_cond_true ek ?_
    apply wp_skip
    apply h14
    as_aux_lemma =>
     refine wk fun K16 h16 => ?_
     refine wp_block ?_
     refine wk fun K17 h17 => ?_
     refine W.region_plain (row := none) [(0, false), (1, false), (2, false), (3, false), (4, true), (5, false), (6, false), (7, false), (8, true), (9, true), (10, false)] kk ?_
     have s122 := SG.self wl0 none
     refine Fv (.slice (some ⟨g19, 0, none⟩) n12 c13) ?_
     refine Fv (.int .i64 (i : Int)) ?_
     refine Fq (.pointer (some ⟨g19, i, none⟩)) (r_idx0 (n := n12) (c := c13) (k := i) rfl ek kk kk (by omega)) ?_
     obtain ⟨x123, hx124⟩ := get_of (zs := (splitL s 10)) (k := i) (by have h9 := own_len ho0_4; rw [strs_len] at h9; omega)
     have hx123 := split_part (c := 10) (by omega) hx124
     refine Fl (.string x123) (sgS (own_atS ho0_4 hx124) (by simp)) ?_
     refine Fc [.string x123] (l2Line_any x123 _ (by omega)) ?_
     rintro e w129 ⟨p125, b126, rfl, hr127, b128⟩
     have s130 := SG.of_below s122 b128
     refine ⟨_, rfl, s130, ?_⟩
     apply F.nx
     have ho131 := own_kept ho0_4 b128
     have ho132 := own_kept ho0_c8_1 b128
     refine Fv (.tuple #[.agg #[.int .i64 p125.id, .int .i64 p125.fr, .int .i64 p125.to, .int .i64 p125.sz], .bool b126]) ?_
     refine Fq (.agg #[.int .i64 p125.id, .int .i64 p125.fr, .int .i64 p125.to, .int .i64 p125.sz]) (r_extract (vs := #[.agg #[.int .i64 p125.id, .int .i64 p125.fr, .int .i64 p125.to, .int .i64 p125.sz], .bool b126]) rfl ek kk) ?_
     refine Fq (.bool b126) (r_extract (vs := #[.agg #[.int .i64 p125.id, .int .i64 p125.fr, .int .i64 p125.to, .int .i64 p125.sz], .bool b126]) rfl ek kk) ?_
     refine W.sn (fun b => .pointer (some ⟨b, 0, none⟩)) #[.int .i64 0, .int .i64 0, .int .i64 0, .int .i64 0] 38 s130 rfl kk rfl (fun _ => by kernel_rfl) (fun b133 w134 hb135 k136 x137 s138 => ?_)
     apply F.nx
     have lo139 : w.heap.size ≤ b133 := Nl ((Sb c120 s130 nkk)).size (Nat.le_of_eq hb135)
     have ne141 : b95 ≠ b133 := Nat.ne_of_lt (Nat.lt_of_lt_of_eq (Nat.lt_of_lt_of_le (blk_lt x110) (s130).size) hb135)
     have nb142 : Nb b133 (.slice (some ⟨g19, 0, none⟩) n12 c13) := nb_hi ho131 (Nat.le_of_eq hb135)
     have nb143 : Nb b133 (.slice A0_c8_1 n0_c8_1 c0_c8_1) := nb_hi ho132 (Nat.le_of_eq hb135)
     have ho144 := own_kept ho131 k136
     have ho145 := own_kept ho132 k136
     refine W.ss (v := .agg #[.int .i64 p125.id, .int .i64 p125.fr, .int .i64 p125.to, .int .i64 p125.sz]) (j := 0) (news := [.int .i64 p125.id, .int .i64 p125.fr, .int .i64 p125.to, .int .i64 p125.sz]) (cs' := #[.int .i64 p125.id, .int .i64 p125.fr, .int .i64 p125.to, .int .i64 p125.sz]) s138 rfl kk rfl rfl kk kk x137 kk kk (by simp) kk kk (.inr (Nl (s130).size (Nat.le_of_eq hb135))) (fun w146 g147 x148 s149 => ?_)
     have ho150 := own_grown ho144 g147 (fun j e1 e2 => by cases e2; exact nb142 e1.symm)
     have ho151 := own_grown ho145 g147 (fun j e1 e2 => by cases e2; exact nb143 e1.symm)
     refine Fa (.bool b126) ?_
     apply F.es
     have x6 := Sk s149 x6 onn
     have x110 := Sk s149 x110 onn
     have c152 := (Sb c120 s149 nkk)
     apply h17
     refine wk fun K18 h18 => ?_
     refine Rq 5 ?_
     refine Fv (.bool okb) ?_
     refine Fv (.bool okb) ?_
     rcases Bool.eq_false_or_eq_true okb with q153 | q153
     ·rw [q153]
      refine Fv (.bool b126) ?_
      refine Fq (.bool b126) (r_pick (b := true) rfl ek ek) ?_
      refine Fa (.bool b126) ?_
      apply F.es
      apply h18
      refine M.region_plain (row := [(Value.ownBlock (.slice A0_c8_1 n0_c8_1 c0_c8_1)), (some b95)]) [(0, false), (1, true), (2, false), (3, true), (4, true), (5, false), (6, true)] kk ?_
      have s154 := SM.self w146 [(Value.ownBlock (.slice A0_c8_1 n0_c8_1 c0_c8_1)), (some b95)]
      refine Fq (.pointer (some ⟨b95, 1, none⟩)) (r_field (k := 1) rfl ek kk) ?_
      refine W.slq (v := .slice A0_c8_1 n0_c8_1 c0_c8_1) s154 rfl (r_load rfl kk kk (eqS (blk_cell (j := 1) x110 kk))) kk rfl ?_
      apply F.nx
      refine Fq (.agg #[.int .i64 p125.id, .int .i64 p125.fr, .int .i64 p125.to, .int .i64 p125.sz]) (r_load4 rfl ek kk kk (smS (blk_cell (j := 0) x148 kk) (ne2 nb143 (fun e9 => ne141 (Option.some.inj e9).symm))) (smS (blk_cell (j := 1) x148 kk) (ne2 nb143 (fun e9 => ne141 (Option.some.inj e9).symm))) (smS (blk_cell (j := 2) x148 kk) (ne2 nb143 (fun e9 => ne141 (Option.some.inj e9).symm))) (smS (blk_cell (j := 3) x148 kk) (ne2 nb143 (fun e9 => ne141 (Option.some.inj e9).symm)))) ?_
      refine M.sn (fun b => .slice (some ⟨b, 0, none⟩) 1 1) #[.int .i64 p125.id, .int .i64 p125.fr, .int .i64 p125.to, .int .i64 p125.sz] 38 s154 rfl kk rfl (fun _ => by kernel_rfl) (fun b155 w156 hb157 k158 x159 s160 => ?_)
      apply F.nx
      have lo161 : w.heap.size ≤ b155 := Nl ((SM.belowR c152 s154 (in2 (fun kq e => (World.ownsRow.lt ho151 kq e).1) (fun kq e => (by cases e; exact lo101))))).size (Nat.le_of_eq hb157)
      have x110 := (k158.block _ (blk_lt x110)).trans x110
      have ho167 := own_kept ho150 k158
      have ho168 := own_kept ho151 k158
      refine M.sap (e := 38) (size := 4) (base := w.heap.size) (m := 1) (v := .slice A0_c8_1 n0_c8_1 c0_c8_1) (c := 1) s160 rfl rfl rfl rfl kk kk kk ho168 x159 kk kk (by omega) (by omega) (by have := ((SM.belowR c152 s160 (in2 (fun kq e => (World.ownsRow.lt ho151 kq e).1) (fun kq e => (by cases e; exact lo101))))).size; omega) (.inl (by simp)) (fun g169 cap170 w171 ho172 hg173 hat174 hlt175 s176 => ?_)
      apply F.nx
      have nb177 : Nb b2 (.slice (some ⟨g169, 0, none⟩) (n0_c8_1 + 1) cap170) := nb_app nb0_c8_1_b2 (Nat.lt_of_lt_of_le (blk_lt x6) (s160).size) hat174
      have nb178 : Nb b95 (.slice (some ⟨g169, 0, none⟩) (n0_c8_1 + 1) cap170) := nb_app nb0_c8_1_b95 (blk_lt x110) hat174
      have x110 := (hg173.block _ (blk_lt x110) nb0_c8_1_b95).trans x110
      have ho172 := own_snocP (x := p125) ho172
      have nr181 : NbR (.slice (some ⟨g169, 0, none⟩) (n0_c8_1 + 1) cap170) (.slice (some ⟨g19, 0, none⟩) n12 c13) := nbr_app nr0_1_0 (fun j h => (World.ownsRow.lt ho167 j h).2) (hat3 (v := .slice A0_c8_1 n0_c8_1 c0_c8_1) hat174)
      have ho182 := own_grown ho167 hg173 (NbR.symm nr0_1_0)
      refine Fq (.pointer (some ⟨b95, 1, none⟩)) (r_field (k := 1) rfl ek kk) ?_
      refine M.ss (v := .slice (some ⟨g169, 0, none⟩) (n0_c8_1 + 1) cap170) (j := 1) (news := [.slice (some ⟨g169, 0, none⟩) (n0_c8_1 + 1) cap170]) (cs' := #[.int .i64 (ParseInt_v0 x74), .slice (some ⟨g169, 0, none⟩) (n0_c8_1 + 1) cap170]) s176 rfl kk rfl rfl kk kk x110 kk kk (by simp) kk kk (.inl (by simp)) (fun w183 g184 x185 s186 => ?_)
      have ho187 := own_grown ho182 g184 (fun j e1 e2 => by cases e2; exact nb104 e1.symm)
      have ho188 := own_grown ho172 g184 (fun j e1 e2 => by cases e2; exact nb178 e1.symm)
      apply F.es
      have x6 := SM.blk s186 x6 (ne2 nb0_c8_1_b2 (fun e9 => ne102 (Option.some.inj e9)))
      have x148 := SM.blk s186 x148 (ne2 nb143 (fun e9 => ne141 (Option.some.inj e9).symm))
      have c189 := (SM.belowR c152 s186 (in2 (fun kq e => (World.ownsRow.lt ho151 kq e).1) (fun kq e => (by cases e; exact lo101))))
      apply h16
      as_aux_lemma =>
       refine Rq 3 ?_
       refine Fv (.int .i64 (i : Int)) ?_
       refine Fq (.int .i64 ((i + 1 : Nat) : Int)) (r_add (m := (i : Int)) (n := 1) (z := ((i + 1 : Nat) : Int)) rfl ek ek (by omega) (by omega)) ?_
       refine Fa (.int .i64 ((i + 1 : Nat) : Int)) ?_
       apply F.es
       exact h13 _ _ _ (by omega : ((splitL s 10).length - (i + 1)) < _) ⟨i + 1, b126, (pl ++ [p125]), (some ⟨g169, 0, none⟩), (n0_c8_1 + 1), cap170, Kn.of, rfl, (by omega), (by rw [List.length_append, List.length_singleton]; omega), (ora_next hor (by omega) (by omega) hx124 hr127 (by rw [q153]; try rfl)), x6, x185, ho187, ho188, nb177, nb178, nr181, c189⟩
     rw [q153]
     refine Fs rfl ?_
     refine Fq (.bool false) (r_pick (b := false) rfl ek ek) ?_
     refine Fa (.bool false) ?_
     apply F.es
     apply h18
     refine M.region_plain (row := [(Value.ownBlock (.slice A0_c8_1 n0_c8_1 c0_c8_1)), (some b95)]) [(0, false), (1, true), (2, false), (3, true), (4, true), (5, false), (6, true)] kk ?_
     have s190 := SM.self w146 [(Value.ownBlock (.slice A0_c8_1 n0_c8_1 c0_c8_1)), (some b95)]
     refine Fq (.pointer (some ⟨b95, 1, none⟩)) (r_field (k := 1) rfl ek kk) ?_
     refine W.slq (v := .slice A0_c8_1 n0_c8_1 c0_c8_1) s190 rfl (r_load rfl kk kk (eqS (blk_cell (j := 1) x110 kk))) kk rfl ?_
     apply F.nx
     refine Fq (.agg #[.int .i64 p125.id, .int .i64 p125.fr, .int .i64 p125.to, .int .i64 p125.sz]) (r_load4 rfl ek kk kk (smS (blk_cell (j := 0) x148 kk) (ne2 nb143 (fun e9 => ne141 (Option.some.inj e9).symm))) (smS (blk_cell (j := 1) x148 kk) (ne2 nb143 (fun e9 => ne141 (Option.some.inj e9).symm))) (smS (blk_cell (j := 2) x148 kk) (ne2 nb143 (fun e9 => ne141 (Option.some.inj e9).symm))) (smS (blk_cell (j := 3) x148 kk) (ne2 nb143 (fun e9 => ne141 (Option.some.inj e9).symm)))) ?_
     refine M.sn (fun b => .slice (some ⟨b, 0, none⟩) 1 1) #[.int .i64 p125.id, .int .i64 p125.fr, .int .i64 p125.to, .int .i64 p125.sz] 38 s190 rfl kk rfl (fun _ => by kernel_rfl) (fun b191 w192 hb193 k194 x195 s196 => ?_)
     apply F.nx
     have lo197 : w.heap.size ≤ b191 := Nl ((SM.belowR c152 s190 (in2 (fun kq e => (World.ownsRow.lt ho151 kq e).1) (fun kq e => (by cases e; exact lo101))))).size (Nat.le_of_eq hb193)
     have x110 := (k194.block _ (blk_lt x110)).trans x110
     have ho203 := own_kept ho150 k194
     have ho204 := own_kept ho151 k194
     refine M.sap (e := 38) (size := 4) (base := w.heap.size) (m := 1) (v := .slice A0_c8_1 n0_c8_1 c0_c8_1) (c := 1) s196 rfl rfl rfl rfl kk kk kk ho204 x195 kk kk (by omega) (by omega) (by have := ((SM.belowR c152 s196 (in2 (fun kq e => (World.ownsRow.lt ho151 kq e).1) (fun kq e => (by cases e; exact lo101))))).size; omega) (.inl (by simp)) (fun g205 cap206 w207 ho208 hg209 hat210 hlt211 s212 => ?_)
     apply F.nx
     have nb213 : Nb b2 (.slice (some ⟨g205, 0, none⟩) (n0_c8_1 + 1) cap206) := nb_app nb0_c8_1_b2 (Nat.lt_of_lt_of_le (blk_lt x6) (s196).size) hat210
     have nb214 : Nb b95 (.slice (some ⟨g205, 0, none⟩) (n0_c8_1 + 1) cap206) := nb_app nb0_c8_1_b95 (blk_lt x110) hat210
     have x110 := (hg209.block _ (blk_lt x110) nb0_c8_1_b95).trans x110
     have ho208 := own_snocP (x := p125) ho208
     have nr217 : NbR (.slice (some ⟨g205, 0, none⟩) (n0_c8_1 + 1) cap206) (.slice (some ⟨g19, 0, none⟩) n12 c13) := nbr_app nr0_1_0 (fun j h => (World.ownsRow.lt ho203 j h).2) (hat3 (v := .slice A0_c8_1 n0_c8_1 c0_c8_1) hat210)
     have ho218 := own_grown ho203 hg209 (NbR.symm nr0_1_0)
     refine Fq (.pointer (some ⟨b95, 1, none⟩)) (r_field (k := 1) rfl ek kk) ?_
     refine M.ss (v := .slice (some ⟨g205, 0, none⟩) (n0_c8_1 + 1) cap206) (j := 1) (news := [.slice (some ⟨g205, 0, none⟩) (n0_c8_1 + 1) cap206]) (cs' := #[.int .i64 (ParseInt_v0 x74), .slice (some ⟨g205, 0, none⟩) (n0_c8_1 + 1) cap206]) s212 rfl kk rfl rfl kk kk x110 kk kk (by simp) kk kk (.inl (by simp)) (fun w219 g220 x221 s222 => ?_)
     have ho223 := own_grown ho218 g220 (fun j e1 e2 => by cases e2; exact nb104 e1.symm)
     have ho224 := own_grown ho208 g220 (fun j e1 e2 => by cases e2; exact nb214 e1.symm)
     apply F.es
     have x6 := SM.blk s222 x6 (ne2 nb0_c8_1_b2 (fun e9 => ne102 (Option.some.inj e9)))
     have c225 := (SM.belowR c152 s222 (in2 (fun kq e => (World.ownsRow.lt ho151 kq e).1) (fun kq e => (by cases e; exact lo101))))
     apply h16
     refine Rq 3 ?_
     refine Fv (.int .i64 (i : Int)) ?_
     refine Fq (.int .i64 ((i + 1 : Nat) : Int)) (r_add (m := (i : Int)) (n := 1) (z := ((i + 1 : Nat) : Int)) rfl ek ek (by omega) (by omega)) ?_
     refine Fa (.int .i64 ((i + 1 : Nat) : Int)) ?_
     apply F.es
     exact h13 _ _ _ (by omega : ((splitL s 10).length - (i + 1)) < _) ⟨i + 1, false, (pl ++ [p125]), (some ⟨g205, 0, none⟩), (n0_c8_1 + 1), cap206, Kn.of, rfl, (by omega), (by rw [List.length_append, List.length_singleton]; omega), (ora_next hor (by omega) (by omega) hx124 hr127 (by rw [q153]; try rfl)), x6, x221, ho223, ho224, nb213, nb214, nr217, c225⟩
   refine Fq (.bool false) (r_lss (m := (i : Int)) (n := (n12 : Int) - 1) rfl ek ek (df q121)) ?_
   apply F.es
   apply h15
   refine wp_cond_false ek ?_
   refine wp_exit ?_
   apply h11
   as_aux_lemma =>
    refine wk fun K19 h19 => ?_
    refine wk fun K20 h20 => ?_
    refine W.region_plain (row := none) [(0, false), (1, false), (2, false), (3, false), (4, true), (5, false), (6, false), (7, false), (8, false), (9, true), (10, false), (11, false), (12, false)] kk ?_
    have s226 := SG.self wl0 none
    refine Fv (.bool okb) ?_
    rcases Bool.eq_false_or_eq_true okb with q227 | q227
    ·rw [q227]
     refine Fq (.bool false) (r_not (b := true) rfl ek rfl) ?_
     refine Fv (.bool false) ?_
     refine Fq (.agg #[.int .i64 (ParseInt_v0 x74), .slice A0_c8_1 n0_c8_1 c0_c8_1]) (r_load2 rfl ek kk kk (sgS (blk_cell (j := 0) x110 kk) onn) (sgS (blk_cell (j := 1) x110 kk) onn)) ?_
     refine Fc [.agg #[.int .i64 (ParseInt_v0 x74), .slice A0_c8_1 n0_c8_1 c0_c8_1]] (l2Good_any (ParseInt_v0 x74) A0_c8_1 n0_c8_1 c0_c8_1 pl _ (own_rd ho0_c8_1) (by omega)) ?_
     rintro e w229 ⟨rfl, b228⟩
     have s230 := SG.of_below s226 b228
     refine ⟨_, rfl, s230, ?_⟩
     apply F.nx
     have ho232 := own_kept ho0_c8_1 b228
     rcases Bool.eq_false_or_eq_true (goodN (ParseInt_v0 x74) pl) with q233 | q233
     ·rw [q233]
      have hgl234 := (good_of q233).len
      refine Fq (.bool false) (r_not (b := true) rfl ek rfl) ?_
      refine Fq (.bool false) (r_pick (b := false) rfl ek ek) ?_
      refine Fv (.bool false) ?_
      refine Fq (.agg #[.int .i64 (ParseInt_v0 x74), .slice A0_c8_1 n0_c8_1 c0_c8_1]) (r_load2 rfl ek kk kk (sgS (blk_cell (j := 0) x110 kk) onn) (sgS (blk_cell (j := 1) x110 kk) onn)) ?_
      refine Fc [.agg #[.int .i64 (ParseInt_v0 x74), .slice A0_c8_1 n0_c8_1 c0_c8_1]] (l2Text_any (ParseInt_v0 x74) A0_c8_1 n0_c8_1 c0_c8_1 pl _ (own_rd ho232) (good_small q233)) ?_
      rintro e w236 ⟨rfl, b235⟩
      have s237 := SG.of_below s230 b235
      refine ⟨_, rfl, s237, ?_⟩
      apply F.nx
      have ho239 := own_kept ho232 b235
      refine Fv (.string s) ?_
      by_cases q240 : (textN (ParseInt_v0 x74) pl) = s
      ·refine Fq (.bool false) (r_neqS (s := (textN (ParseInt_v0 x74) pl)) (r := s) rfl ek ek (by rw [decide_eq_true q240]; try rfl)) ?_
       refine Fq (.bool false) (r_pick (b := false) rfl ek ek) ?_
       apply F.es
       have x6 := Sk s237 x6 onn
       have x110 := Sk s237 x110 onn
       have c241 := (Sb c120 s237 nkk)
       apply h20
       refine wp_cond_false ek ?_
       apply wp_skip
       apply h19
       refine wk fun K21 h21 => ?_
       refine W.region_plain (row := (some b2)) [(0, false), (1, true), (2, false)] kk ?_
       have s242 := SG.self w236 (some b2)
       refine Fq (.agg #[.int .i64 (ParseInt_v0 x74), .slice A0_c8_1 n0_c8_1 c0_c8_1]) (r_load2 rfl ek kk kk (sgS (blk_cell (j := 0) x110 kk) (fun e9 => ne102 (Option.some.inj e9).symm)) (sgS (blk_cell (j := 1) x110 kk) (fun e9 => ne102 (Option.some.inj e9).symm))) ?_
       refine W.ss (v := .agg #[.int .i64 (ParseInt_v0 x74), .slice A0_c8_1 n0_c8_1 c0_c8_1]) (j := 0) (news := [.int .i64 (ParseInt_v0 x74), .slice A0_c8_1 n0_c8_1 c0_c8_1]) (cs' := #[.int .i64 (ParseInt_v0 x74), .slice A0_c8_1 n0_c8_1 c0_c8_1]) s242 rfl kk rfl rfl kk kk x6 kk kk (by simp) kk kk (.inl rfl) (fun w243 g244 x245 s246 => ?_)
       have ho248 := own_grown ho239 g244 (fun j e1 e2 => by cases e2; exact nb0_c8_1_b2 e1.symm)
       refine Fa (.bool true) ?_
       apply F.es
       have c249 := (Sb c241 s246 (fun kq e => by cases e; exact lo8))
       apply h21
       refine wp_ret ?_
       try simp only [Exit.then]
       refine retCT (x := .bool true) rfl kk kk kk kk x245 ?_
       have hpn := pn_yes q233 q240 (fun m ps h1 h2 => by have h9 := ora_end hor (by omega) m ps h1 h2; exact ⟨h9.1, h9.2.2⟩)
       exact fin_net ho248 hpn.2.2.symm hpn.2.1.symm hpn.1.symm c249
      refine Fq (.bool true) (r_neqS (s := (textN (ParseInt_v0 x74) pl)) (r := s) rfl ek ek (by rw [decide_eq_false q240]; try rfl)) ?_
      refine Fq (.bool true) (r_pick (b := false) rfl ek ek) ?_
      apply F.es
      have x6 := Sk s237 x6 onn
      have c250 := (Sb c120 s237 nkk)
      apply h20
      as_aux_lemma =>
       refine wp_cond_true ek ?_
       refine wk fun K22 h22 => ?_
       refine W.region_plain (row := (some b2)) [(0, false), (1, true), (2, false)] kk ?_
       have s251 := SG.self w236 (some b2)
       refine Fq (.agg #[.int .i64 0, .slice none 0 0]) (r_build rfl (vs := []) kk kk) ?_
       refine W.ss (v := .agg #[.int .i64 0, .slice none 0 0]) (j := 0) (news := [.int .i64 0, .slice none 0 0]) (cs' := #[.int .i64 0, .slice none 0 0]) s251 rfl kk rfl rfl kk kk x6 kk kk (by simp) kk kk (.inl rfl) (fun w252 g253 x254 s255 => ?_)
       refine Fa (.bool false) ?_
       apply F.es
       have c258 := (Sb c250 s255 (fun kq e => by cases e; exact lo8))
       apply h22
       refine wp_ret ?_
       try simp only [Exit.then]
       refine retCT (x := .bool false) rfl kk kk kk kk x254 ?_
       have hpn := pn_no (s := s) (fun m ps h1 h2 => by have h9 := ora_end hor (by omega) m ps h1 h2; exact q240 (by rw [h9.1, h9.2.2]; exact h2))
       exact fin_net (zs := []) (World.ownsRow_nil _ _ _ _) hpn.2.2.symm hpn.2.1.symm hpn.1.symm c258
     rw [q233]
     refine Fq (.bool true) (r_not (b := false) rfl ek rfl) ?_
     refine Fq (.bool true) (r_pick (b := false) rfl ek ek) ?_
     refine Fv (.bool true) ?_
     refine Fs s230 ?_
     refine Fs s230 ?_
     refine Fs s230 ?_
     refine Fs s230 ?_
     refine Fq (.bool true) (r_pick (b := true) rfl ek ek) ?_
     apply F.es
     have x6 := Sk s230 x6 onn
     have c259 := (Sb c120 s230 nkk)
     apply h20
     refine wp_cond_true ek ?_
     refine wk fun K23 h23 => ?_
     refine W.region_plain (row := (some b2)) [(0, false), (1, true), (2, false)] kk ?_
     have s260 := SG.self w229 (some b2)
     refine Fq (.agg #[.int .i64 0, .slice none 0 0]) (r_build rfl (vs := []) kk kk) ?_
     refine W.ss (v := .agg #[.int .i64 0, .slice none 0 0]) (j := 0) (news := [.int .i64 0, .slice none 0 0]) (cs' := #[.int .i64 0, .slice none 0 0]) s260 rfl kk rfl rfl kk kk x6 kk kk (by simp) kk kk (.inl rfl) (fun w261 g262 x263 s264 => ?_)
     refine Fa (.bool false) ?_
     apply F.es
     have c267 := (Sb c259 s264 (fun kq e => by cases e; exact lo8))
     apply h23
     refine wp_ret ?_
     try simp only [Exit.then]
     refine retCT (x := .bool false) rfl kk kk kk kk x263 ?_
     have hpn := pn_no (s := s) (fun m ps h1 h2 => by have h9 := ora_end hor (by omega) m ps h1 h2; have h8 := q233; rw [h9.1, h9.2.2, h1] at h8; cases h8)
     exact fin_net (zs := []) (World.ownsRow_nil _ _ _ _) hpn.2.2.symm hpn.2.1.symm hpn.1.symm c267
    rw [q227]
    refine Fq (.bool true) (r_not (b := false) rfl ek rfl) ?_
    refine Fv (.bool true) ?_
    refine Fs s226 ?_
    refine Fs s226 ?_
    refine Fs s226 ?_
    refine Fq (.bool true) (r_pick (b := true) rfl ek ek) ?_
    refine Fv (.bool true) ?_
    refine Fs s226 ?_
    refine Fs s226 ?_
    refine Fs s226 ?_
    refine Fs s226 ?_
    refine Fq (.bool true) (r_pick (b := true) rfl ek ek) ?_
    apply F.es
    have x6 := Sk s226 x6 onn
    have c268 := (Sb c120 s226 nkk)
    apply h20
    as_aux_lemma =>
     refine wp_cond_true ek ?_
     refine wk fun K24 h24 => ?_
     refine W.region_plain (row := (some b2)) [(0, false), (1, true), (2, false)] kk ?_
     have s269 := SG.self wl0 (some b2)
     refine Fq (.agg #[.int .i64 0, .slice none 0 0]) (r_build rfl (vs := []) kk kk) ?_
     refine W.ss (v := .agg #[.int .i64 0, .slice none 0 0]) (j := 0) (news := [.int .i64 0, .slice none 0 0]) (cs' := #[.int .i64 0, .slice none 0 0]) s269 rfl kk rfl rfl kk kk x6 kk kk (by simp) kk kk (.inl rfl) (fun w270 g271 x272 s273 => ?_)
     refine Fa (.bool false) ?_
     apply F.es
     have c276 := (Sb c268 s273 (fun kq e => by cases e; exact lo8))
     apply h24
     refine wp_ret ?_
     try simp only [Exit.then]
     refine retCT (x := .bool false) rfl kk kk kk kk x272 ?_
     have hpn := pn_no (s := s) (fun m ps h1 h2 => by have h9 := ora_end hor (by omega) m ps h1 h2; have h8 := h9.2.1.symm.trans q227; cases h8)
     exact fin_net (zs := []) (World.ownsRow_nil _ _ _ _) hpn.2.2.symm hpn.2.1.symm hpn.1.symm c276
set_option maxRecDepth 100000 in
set_option maxHeartbeats 1000000 in
theorem ParseNetwork_spec (s : ByteArray) (w : World) (hs : s.size ≤ 1048576) :
    Calls Tryd.prog 6 #[.string s] w fun e w' => ∃ A' d, e = .returned (.tuple #[.agg #[.int .i64 (ParseNetwork_v0m s), .slice A' (ParseNetwork_v0 s).length d], .bool (ParseNetwork_v1 s)]) ∧ Rd w' 4 A' (ParseNetwork_v0 s).length (pipesV (ParseNetwork_v0 s)) ∧ Below w.heap.size w w' := by
 go_enter Tryd.func6, Tryd.ntmps6
 refine F.begin 8 [(0, .string s)] (fun U0 => ?_)
 refine wk fun K1 h1 => ?_
 refine W.region_plain (row := none) [(0, true), (1, false)] kk ?_
 have s1 := SG.self w none
 refine W.sn (fun b => .pointer (some ⟨b, 0, none⟩)) #[.int .i64 0, .slice none 0 0] 24 s1 rfl kk rfl (fun _ => by kernel_rfl) (fun b2 w3 hb4 k5 x6 s7 => ?_)
 apply F.nx
 have lo8 : w.heap.size ≤ b2 := Nl ((Sb (Below.refl _ _) s1 nkk)).size (Nat.le_of_eq hb4)
 refine Fa (.bool false) ?_
 apply F.es
 have c9 := (Sb (Below.refl _ _) s7 nkk)
 apply h1
 refine wk fun K2 h2 => ?_
 refine W.region_plain (row := (some b2)) [(0, false), (1, true), (2, false), (3, false), (4, true), (5, false)] kk ?_
 have s10 := SG.self w3 (some b2)
 refine Fv (.string s) ?_
 have lb17 := (blk_lt x6)
 have z15 := ((Sb c9 s10 (fun kq e => by cases e; exact lo8))).size
 refine Fc [.string s] (l2Parse_any s _ hs) ?_
 rintro e w19 ⟨A11, d12, rfl, ho13, b18⟩
 have s20 := SG.of_below s10 b18
 refine ⟨_, rfl, s20, ?_⟩
 apply F.nx
 have x6 := (b18.block _ (blk_lt x6)).trans x6
 have ho14 := own_base (base' := w.heap.size) ho13 z15
 have nb21 : Nb b2 (.slice A11 ((ParseNetwork_v0 s).length) d12) := nb_lo ho13 lb17
 refine Fq (.agg #[.int .i64 (ParseNetwork_v0m s), .slice A11 ((ParseNetwork_v0 s).length) d12]) (r_extract (vs := #[.agg #[.int .i64 (ParseNetwork_v0m s), .slice A11 ((ParseNetwork_v0 s).length) d12], .bool (ParseNetwork_v1 s)]) rfl ek kk) ?_
 refine Fq (.bool (ParseNetwork_v1 s)) (r_extract (vs := #[.agg #[.int .i64 (ParseNetwork_v0m s), .slice A11 ((ParseNetwork_v0 s).length) d12], .bool (ParseNetwork_v1 s)]) rfl ek kk) ?_
 refine W.ss (v := .agg #[.int .i64 (ParseNetwork_v0m s), .slice A11 ((ParseNetwork_v0 s).length) d12]) (j := 0) (news := [.int .i64 (ParseNetwork_v0m s), .slice A11 ((ParseNetwork_v0 s).length) d12]) (cs' := #[.int .i64 (ParseNetwork_v0m s), .slice A11 ((ParseNetwork_v0 s).length) d12]) s20 rfl kk rfl rfl kk kk x6 kk kk (by simp) kk kk (.inl rfl) (fun w22 g23 x24 s25 => ?_)
 have ho26 := own_grown ho14 g23 (fun j e1 e2 => by cases e2; exact nb21 e1.symm)
 refine Fa (.bool (ParseNetwork_v1 s)) ?_
 apply F.es
 have c27 := (Sb c9 s25 (fun kq e => by cases e; exact lo8))
 apply h2
 refine wp_ret ?_
 try simp only [Exit.then]
 refine retCT (x := .bool (ParseNetwork_v1 s)) rfl kk kk kk kk x24 ?_
 exact ⟨_, _, rfl, (own_rd ho26), c27⟩
end Go.Proofs.YtdlcldaogcbnlaaDoor
namespace Go.Proofs.YtdlcldaogcbnlaaDoor
open Go.RowKit
set_option linter.unusedVariables false
theorem index_app {c : UInt8} {y : List UInt8} : ∀ x : List UInt8, c ∉ x → Lib.indexByte (x ++ c :: y) c = ((x.length : Nat) : Int)
  | [], _ => by simp [Lib.indexByte]
  | b :: x, h => by
    have hb : ¬ b = c := fun e => h (by rw [e]; exact List.mem_cons_self ..)
    have ih := index_app (y := y) x (fun e => h (List.mem_cons_of_mem _ e))
    rw [List.cons_append]
    unfold Lib.indexByte
    rw [ih, if_neg (by simpa using hb), if_neg (by simp), List.length_cons]
    omega
theorem splitK_C (c : UInt8) : ∀ (n : Nat) (l : List UInt8), l.length ≤ n → Lib.splitK [c] 0 (l.count c) l = splitC c l := by
  intro n
  induction n with
  | zero =>
    intro l h
    obtain rfl : l = [] := List.length_eq_zero_iff.1 (by omega)
    rfl
  | succ n ih =>
    intro l h
    by_cases hm : c ∈ l
    · obtain ⟨x, y, rfl, hx⟩ := List.eq_append_cons_of_mem hm
      have hc : (x ++ c :: y).count c = y.count c + 1 := by
        rw [List.count_append, List.count_eq_zero_of_not_mem hx, List.count_cons_self]; omega
      rw [hc, splitC_app hx, Lib.splitK, Lib.index_one, index_app x hx]
      rw [if_neg (by simp)]
      rw [List.length_append, List.length_cons] at h
      have e : (((x.length : Nat) : Int)).toNat = x.length := by omega
      rw [e, Nat.add_zero, List.take_left]
      have e2 : (x ++ c :: y).drop (x.length + [c].length) = y := by rw [← List.drop_drop, List.drop_left]; rfl
      rw [e2, ih y (by omega)]
    · rw [List.count_eq_zero_of_not_mem hm, splitC_one hm]; rfl
theorem splitB_L (s : ByteArray) {c : Nat} (hc : c < 256) : Lib.splitB ⟨#[UInt8.ofNat c]⟩ 0 (Lib.countB s ⟨#[UInt8.ofNat c]⟩) s = splitL s c := by
  have h := Lib.splitB_data ⟨#[UInt8.ofNat c]⟩ 0 (Lib.countB s ⟨#[UInt8.ofNat c]⟩) s
  have e : Lib.countB s ⟨#[UInt8.ofNat c]⟩ = s.data.toList.count (UInt8.ofNat c) := Lib.count_one (UInt8.ofNat c) s.data.toList
  rw [e] at h ⊢
  rw [show ((⟨#[UInt8.ofNat c]⟩ : ByteArray).data.toList) = [UInt8.ofNat c] from rfl, splitK_C _ _ _ (Nat.le_refl _)] at h
  rw [splitL_splitC s hc, ← h, List.map_map]
  rw [show (ofL ∘ fun x : ByteArray => x.data.toList) = id from funext ofL_self, List.map_id]
theorem split_lib (s : ByteArray) (w : World) (hs : s.size ≤ 1048576) (hmax : MaxIs w) :
    Calls Tryd.prog 38 #[.string s, .string (⟨#[10]⟩ : ByteArray)] w fun e w' => ∃ A' n' c', e = .returned (.slice A' n' c') ∧ w'.ownsRow w.heap.size 9 1 (.slice A' n' c') n' (strsV (splitL s 10)) ∧ Below w.heap.size w w' := by
  obtain ⟨m, hm⟩ := hmax
  refine (Tryd.strings_Split s ⟨#[10]⟩ m w (by omega) hm (by decide)).mono fun e w' ⟨h, hw⟩ => ⟨_, _, _, h, ?_, by rw [hw]; exact below_a1 _ _⟩
  have hB : Lib.splitB (⟨#[10]⟩ : ByteArray) 0 (Lib.countB s (⟨#[10]⟩ : ByteArray)) s = splitL s 10 := splitB_L s (c := 10) (by omega)
  have hl := Lib.splitB_all (⟨#[10]⟩ : ByteArray) (by decide) 0 _ s rfl
  rw [hB] at hl
  have hle := splitL_len s 10
  rw [hw, hB]
  have hx := heap_alloc_new w (.cells ((splitL s 10).map Value.string).toArray 9 (0, 0))
  have ho := own_blk (base := w.heap.size) (size := 1) (n := Lib.countB s (⟨#[10]⟩ : ByteArray) + 1) hx (Nat.le_refl _) (by simp [hl]) (by omega)
  simpa [strsV] using ho
end Go.Proofs.YtdlcldaogcbnlaaDoor
namespace Go.Proofs.YtdlcldaogcbnlaaDoor
open Go.RowKit
set_option linter.unusedVariables false
set_option linter.unusedSimpArgs false
def runTo (s : ByteArray) : Nat → Nat → Nat → Nat × Nat
  | 0, i, n => (n, i)
  | k + 1, i, n => if i < s.size ∧ 48 ≤ bAt s i ∧ bAt s i ≤ 57 then runTo s k (i + 1) (10 * n + (bAt s i - 48)) else (n, i)
def numsTo (s : ByteArray) : Nat → Nat → List Int
  | 0, _ => []
  | f + 1, i => if i < s.size then (if 48 ≤ bAt s i ∧ bAt s i ≤ 57 then (((runTo s 6 i 0).1 : Nat) : Int) :: numsTo s f ((runTo s 6 i 0).2 + 1) else numsTo s f (i + 1)) else []
def numsOf (s : ByteArray) (k : Nat) : List Int := (numsTo s (s.size + 1) 0).take k
theorem nums_end {s : ByteArray} {i : Nat} (h : ¬ i < s.size) : ∀ f, numsTo s f i = []
  | 0 => rfl
  | f + 1 => by unfold numsTo; rw [if_neg h]
theorem nums_skip {s : ByteArray} {i f : Nat} (h : i < s.size) (h2 : ¬ (48 ≤ bAt s i ∧ bAt s i ≤ 57)) : numsTo s (f + 1) i = numsTo s f (i + 1) := by
  rw [numsTo, if_pos h, if_neg h2]
theorem nums_run {s : ByteArray} {i f v j : Nat} (h : i < s.size) (h2 : 48 ≤ bAt s i ∧ bAt s i ≤ 57) (hr : runTo s 6 i 0 = (v, j)) : numsTo s (f + 1) i = ((v : Nat) : Int) :: numsTo s f (j + 1) := by
  rw [numsTo, if_pos h, if_pos h2, hr]
theorem run_step {s : ByteArray} {d j v : Nat} {r : Nat × Nat} (hr : runTo s (6 - d) j v = r) (hd : d < 6) (h : j < s.size) (h1 : 48 ≤ bAt s j) (h2 : bAt s j ≤ 57) : runTo s (6 - (d + 1)) (j + 1) (10 * v + (bAt s j - 48)) = r := by
  rw [show 6 - d = (6 - (d + 1)) + 1 by omega, runTo, if_pos ⟨h, h1, h2⟩] at hr
  exact hr
theorem run_end {s : ByteArray} {d j v : Nat} {r : Nat × Nat} (hr : runTo s (6 - d) j v = r) (h : ¬ (d < 6 ∧ j < s.size ∧ 48 ≤ bAt s j ∧ bAt s j ≤ 57)) : r = (v, j) := by
  cases hk : 6 - d with
  | zero => rw [hk] at hr; exact hr.symm
  | succ k =>
    rw [hk, runTo, if_neg (fun h9 => h ⟨by omega, h9⟩)] at hr
    exact hr.symm
theorem pow6 {v d : Nat} (h : v < 10 ^ d) (hd : d ≤ 6) : v < 1000000 := Nat.lt_of_lt_of_le h (Nat.pow_le_pow_right (by omega) hd)
theorem pow_step {v d c : Nat} (h : v < 10 ^ d) (hc : c ≤ 9) : 10 * v + c < 10 ^ (d + 1) := by rw [Nat.pow_succ]; omega
theorem nums_done {s : ByteArray} {k : Nat} {zs r : List Int} (h : zs ++ r = numsTo s (s.size + 1) 0) (hl : zs.length ≤ k) (h2 : r = [] ∨ zs.length = k) : numsOf s k = zs := by
  unfold numsOf
  rw [← h]
  rcases h2 with h2 | h2
  · rw [h2, List.append_nil, List.take_of_length_le hl]
  · rw [← h2, List.take_left]
end Go.Proofs.YtdlcldaogcbnlaaDoor
namespace Go.Proofs.YtdlcldaogcbnlaaDoor
open Go.RowKit
set_option linter.unusedVariables false
def numL (D : List UInt8) (n : Nat) : Nat := D.foldl (fun n b => 10 * n + (b.toNat - 48)) n
theorem decFrom_num : ∀ (D : List UInt8) (n : Nat), (∀ b ∈ D, 48 ≤ b.toNat ∧ b.toNat ≤ 57) → Lib.decFrom n D = some (numL D n)
  | [], n, _ => rfl
  | b :: D, n, h => by
    have hb := h b (List.mem_cons_self ..)
    have hd : Lib.digitVal b = some (b.toNat - 48) := by
      have := digitVal_of (d := b.toNat - 48) (by omega)
      rw [show 48 + (b.toNat - 48) = b.toNat by omega, UInt8.ofNat_toNat] at this
      exact this
    have ih := decFrom_num D (n * 10 + (b.toNat - 48)) (fun x hx => h x (List.mem_cons_of_mem _ hx))
    have e : Lib.decFrom n (b :: D) = Lib.decFrom (n * 10 + (b.toNat - 48)) D := by
      conv => lhs; unfold Lib.decFrom
      rw [hd]
    rw [e, ih]
    unfold numL
    rw [List.foldl_cons, Nat.mul_comm n 10]
theorem bAt_drop {s : ByteArray} {i : Nat} {b : UInt8} {l : List UInt8} (h : s.data.toList.drop i = b :: l) : i < s.size ∧ bAt s i = b.toNat ∧ s.data.toList.drop (i + 1) = l := by
  have h1 : s.data.toList[i]? = some b := by
    have := congrArg (fun l => l[0]?) h
    simpa [List.getElem?_drop] using this
  have hlt := (List.getElem?_eq_some_iff.1 h1).1
  rw [Array.length_toList] at hlt
  refine ⟨hlt, by rw [bAt_list, List.getD_eq_getElem?_getD, h1]; rfl, ?_⟩
  rw [← List.drop_drop, h]; rfl
theorem run_num {s : ByteArray} : ∀ (D : List UInt8) (k n i : Nat) (t : List UInt8), s.data.toList.drop i = D ++ t → (∀ b ∈ D, 48 ≤ b.toNat ∧ b.toNat ≤ 57) → D.length ≤ k → (∀ c r, t = c :: r → ¬ (48 ≤ c.toNat ∧ c.toNat ≤ 57)) →
    runTo s k i n = (numL D n, i + D.length)
  | [], 0, n, i, t, _, _, _, _ => rfl
  | [], k + 1, n, i, t, h, _, _, ht => by
    unfold runTo
    rw [if_neg]; · rfl
    intro ⟨h1, h2⟩
    cases t with
    | nil =>
      have := congrArg List.length h
      rw [List.length_drop, Array.length_toList] at this
      simp at this
      have : s.data.size = s.size := rfl
      omega
    | cons c r =>
      have := bAt_drop (s := s) (i := i) (b := c) (l := r) h
      rw [this.2.1] at h2
      exact ht c r rfl h2
  | b :: D, 0, n, i, t, _, _, hl, _ => by simp at hl
  | b :: D, k + 1, n, i, t, h, hd, hl, ht => by
    obtain ⟨h1, h2, h3⟩ := bAt_drop (s := s) (i := i) (b := b) (l := D ++ t) h
    have hb := hd b (List.mem_cons_self ..)
    have ih := run_num D k (10 * n + (b.toNat - 48)) (i + 1) t h3 (fun x hx => hd x (List.mem_cons_of_mem _ hx)) (by simpa using hl) ht
    unfold runTo
    rw [if_pos ⟨h1, by omega, by omega⟩, h2, ih]
    unfold numL
    rw [List.foldl_cons, List.length_cons]
    congr 1; omega
def Nm (s : ByteArray) (l : List UInt8) (zs : List Int) : Prop := ∀ i f, s.data.toList.drop i = l → s.size < i + f → numsTo s f i = zs
theorem nm_nil (s : ByteArray) : Nm s [] [] := fun i f h hf => nums_end (by
  have := congrArg List.length h
  rw [List.length_drop, Array.length_toList] at this
  simp at this
  have : s.data.size = s.size := rfl
  omega) f
theorem nm_skip {s : ByteArray} {c : UInt8} {l : List UInt8} {zs : List Int} (h : ¬ (48 ≤ c.toNat ∧ c.toNat ≤ 57)) (hn : Nm s l zs) : Nm s (c :: l) zs := fun i f hi hf => by
  obtain ⟨h1, h2, h3⟩ := bAt_drop hi
  obtain ⟨g, rfl⟩ : ∃ g, f = g + 1 := ⟨f - 1, by omega⟩
  rw [nums_skip h1 (by rw [h2]; exact h)]
  exact hn (i + 1) g h3 (by omega)
theorem nm_num {s : ByteArray} {u : Nat} {t : List UInt8} {zs : List Int} (hu : u ≤ 999999) (ht : ∀ c r, t = c :: r → ¬ (48 ≤ c.toNat ∧ c.toNat ≤ 57)) (hn : Nm s (t.drop 1) zs) : Nm s (Lib.decDigits u ++ t) (((u : Nat) : Int) :: zs) := fun i f hi hf => by
  have hd := fun b hb => digits_in u b hb
  have hlen := digits_len6 hu
  have hpos := digits_len_pos u
  have hr := run_num (s := s) (Lib.decDigits u) 6 0 i t hi hd hlen ht
  have hv : numL (Lib.decDigits u) 0 = u := by
    have h1 := decFrom_num (Lib.decDigits u) 0 hd
    rw [decFrom_digits] at h1
    exact (Option.some.inj h1).symm
  rw [hv] at hr
  obtain ⟨b, D, hD⟩ : ∃ b D, Lib.decDigits u = b :: D := by
    cases hc : Lib.decDigits u with
    | nil => rw [hc] at hpos; simp at hpos
    | cons b D => exact ⟨b, D, rfl⟩
  have hi2 : s.data.toList.drop i = b :: (D ++ t) := by rw [hi, hD]; rfl
  obtain ⟨h1, h2, _⟩ := bAt_drop hi2
  have hb := hd b (by rw [hD]; exact List.mem_cons_self ..)
  obtain ⟨g, rfl⟩ : ∃ g, f = g + 1 := ⟨f - 1, by omega⟩
  rw [nums_run h1 (by omega) hr]
  congr 1
  refine hn _ g ?_ (by omega)
  rw [show i + (Lib.decDigits u).length + 1 = i + ((Lib.decDigits u).length + 1) by omega, ← List.drop_drop, hi, ← List.drop_drop, List.drop_left]
theorem nm_itoa {s : ByteArray} {n : Int} {t : List UInt8} {zs : List Int} (h0 : 0 ≤ n ∧ n ≤ 999999) (ht : ∀ c r, t = c :: r → ¬ (48 ≤ c.toNat ∧ c.toNat ≤ 57)) (hn : Nm s (t.drop 1) zs) : Nm s ((itoaB n).data.toList ++ t) (n :: zs) := by
  obtain ⟨k, rfl⟩ := Int.eq_ofNat_of_zero_le h0.1
  have e : (itoaB ((k : Nat) : Int)).data.toList = Lib.decDigits k := by rw [itoaB_list]; unfold Lib.itoa; rw [if_neg (by omega)]; simp
  rw [e]
  exact nm_num (by omega) ht hn
theorem nm_of {s : ByteArray} {zs : List Int} (h : Nm s s.data.toList zs) (k : Nat) : numsOf s k = zs.take k := by
  unfold numsOf; rw [h 0 (s.size + 1) (List.drop_zero ..) (by omega)]
theorem nums_head {m : Int} (h : 0 ≤ m ∧ m ≤ 999999) : numsOf (headOf m) 5 = [m] := by
  have e : (headOf m).data.toList = [110, 111, 100, 101, 115, 32] ++ ((itoaB m).data.toList ++ []) := by
    unfold headOf; rw [ByteArray.data_append, Array.toList_append, List.append_nil]
  have key : Nm (headOf m) (headOf m).data.toList [m] := by
    conv => arg 2; rw [e]
    refine nm_skip (by decide) (nm_skip (by decide) (nm_skip (by decide) (nm_skip (by decide) (nm_skip (by decide) (nm_skip (by decide) ?_)))))
    exact nm_itoa h (fun c r h9 => by cases h9) (nm_nil _)
  rw [nm_of key]; rfl
theorem nums_line {q : Pp} (h : okP q) : numsOf (lineOf q) 5 = [q.id, q.fr, q.to, q.sz] := by
  have e : (lineOf q).data.toList = (itoaB q.id).data.toList ++ (58 :: 32 :: ((itoaB q.fr).data.toList ++ (45 :: ((itoaB q.to).data.toList ++ (32 :: 115 :: 105 :: 122 :: 101 :: 32 :: ((itoaB q.sz).data.toList ++ [])))))) := by
    unfold lineOf
    simp only [ByteArray.data_append, Array.toList_append, List.append_assoc, List.append_nil]
    rfl
  have key : Nm (lineOf q) (lineOf q).data.toList [q.id, q.fr, q.to, q.sz] := by
    conv => arg 2; rw [e]
    refine nm_itoa h.1 (fun c r h9 => by cases h9; decide) (nm_skip (by decide) ?_)
    refine nm_itoa h.2.1 (fun c r h9 => by cases h9; decide) ?_
    refine nm_itoa h.2.2.1 (fun c r h9 => by cases h9; decide) ?_
    refine nm_skip (by decide) (nm_skip (by decide) (nm_skip (by decide) (nm_skip (by decide) (nm_skip (by decide) ?_))))
    exact nm_itoa h.2.2.2 (fun c r h9 => by cases h9) (nm_nil _)
  rw [nm_of key]; rfl
end Go.Proofs.YtdlcldaogcbnlaaDoor
namespace Go.Proofs.YtdlcldaogcbnlaaDoor
open Go.RowKit
set_option linter.unusedVariables false
set_option linter.unusedSimpArgs false
set_option maxRecDepth 100000 in
set_option maxHeartbeats 600000 in
theorem numbersOf_any (s : ByteArray) (mo : Nat) (w : World) (hs : s.size ≤ 1048576) (hmo : mo ≤ 1000) :
    Calls Tryd.prog 39 #[.string s, .int .i64 ((mo : Nat) : Int)] w fun e w' => ∃ A' n' c', e = .returned (.slice A' n' c') ∧ w'.ownsRow w.heap.size 3 1 (.slice A' n' c') n' (intsV (numsOf s mo)) ∧ n' = (numsOf s mo).length ∧ Below w.heap.size w w' := by
 go_enter Tryd.func39, Tryd.ntmps39
 refine F.begin 69 [(0, .string s), (1, .int .i64 (mo : Int))] (fun U0 => ?_)
 refine wk fun K1 h1 => ?_
 refine Rq 1 ?_
 refine Fa (.slice none 0 0) ?_
 apply F.es
 apply h1
 refine wk fun K2 h2 => ?_
 refine W.region_plain (row := none) [(0, true), (1, false)] kk ?_
 have s1 := SG.self w none
 refine W.sn (fun b => .slice (some ⟨b, 0, none⟩) 0 0) #[] 3 s1 rfl kk rfl (fun _ => by kernel_rfl) (fun b2 w3 hb4 k5 x6 s7 => ?_)
 apply F.nx
 have lo8 : w.heap.size ≤ b2 := Nl ((Sb (Below.refl _ _) s1 nkk)).size (Nat.le_of_eq hb4)
 refine Fa (.slice (some ⟨b2, 0, none⟩) 0 0) ?_
 apply F.es
 have c9 := (Sb (Below.refl _ _) s7 nkk)
 apply h2
 refine wk fun K3 h3 => ?_
 refine wk fun K4 h4 => ?_
 refine Rq 1 ?_
 refine Fa (.int .i64 0) ?_
 apply F.es
 apply h4
 refine wp_block ?_
 have ho10 := own_empty (base := w.heap.size) (size := 1) x6 lo8
 replace ho10 : World.ownsRow _ _ _ _ _ _ (intsV []) := ho10
 refine loopK (fun am0 aa0 wl0 => ∃ (i : Nat) (f : Nat) (zs : List Int) (A0_5 : Option Addr) (n0_5 : Nat) (c0_5 : Nat) , Kn aa0 [(0, .string s), (1, .int .i64 (mo : Int)), (4, .slice none 0 0), (5, .slice A0_5 n0_5 c0_5), (6, .int .i64 (i : Int))] 69 ∧ (am0 = s.size + 1 - i) ∧ (i ≤ s.size + 1) ∧ (s.size < i + f) ∧ (zs ++ numsTo s f i = numsTo s (s.size + 1) 0) ∧ (zs.length ≤ mo) ∧ (wl0.ownsRow w.heap.size 3 1 (.slice A0_5 n0_5 c0_5) n0_5 (intsV zs)) ∧ (Below w.heap.size w wl0)) (s.size + 1 - 0) ?_ ?_
 ·exact ⟨0, (s.size + 1), [], (some ⟨b2, 0, none⟩), 0, 0, Kn.of, rfl, (Nat.zero_le _), (by omega), rfl, (Nat.zero_le _), ho10, c9⟩
 rintro am0 aa0 wl0 K5 h5 ⟨i, f, zs, A0_5, n0_5, c0_5, ⟨U0, rfl⟩, rfl, hi, hf, hacc, hzl, ho0_5, c11⟩
 have hl9 := rd_ints_len (own_rd ho0_5)
 refine wk fun K6 h6 => ?_
 refine wk fun K7 h7 => ?_
 refine Rq 10 ?_
 refine Fv (.int .i64 (i : Int)) ?_
 refine Fv (.string s) ?_
 refine Fq (.int .i64 ((s.size : Nat) : Int)) (r_lenS (s := s) rfl ek kk) ?_
 by_cases q12 : ((i : Int) : Int) < (((s.size : Nat) : Int) : Int)
 ·refine Fq (.bool true) (r_lss (m := (i : Int)) (n := ((s.size : Nat) : Int)) rfl ek ek (dt q12)) ?_
  refine Fv (.bool true) ?_
  refine Fv (.slice A0_5 n0_5 c0_5) ?_
  refine Fq (.int .i64 (n0_5 : Int)) (r_len (A := A0_5) (n := n0_5) (c := c0_5) rfl ek kk) ?_
  refine Fv (.int .i64 (mo : Int)) ?_
  by_cases q13 : ((n0_5 : Int) : Int) < ((mo : Int) : Int)
  ·refine Fq (.bool true) (r_lss (m := (n0_5 : Int)) (n := (mo : Int)) rfl ek ek (dt q13)) ?_
   refine Fq (.bool true) (r_pick (b := true) rfl ek ek) ?_
   apply F.es
   apply h7
   refine wp_cond_true ek ?_
   apply wp_skip
   apply h6
   refine wk fun K8 h8 => ?_
   refine wp_block ?_
   refine wk fun K9 h9 => ?_
   refine wk fun K10 h10 => ?_
   refine Rq 10 ?_
   refine Fv (.string s) ?_
   refine Fv (.int .i64 (i : Int)) ?_
   refine Fq (.int .u8 ((bAt s i : Nat) : Int)) (r_indexS (s := s) (k := i) rfl ek ek kk (by omega)) ?_
   by_cases q14 : (((bAt s i : Nat) : Int) : Int) < (48 : Int)
   ·refine Fq (.bool true) (r_lssK (k := .u8) (m := ((bAt s i : Nat) : Int)) (n := 48) rfl ek ek (dt q14)) ?_
    refine Fv (.bool true) ?_
    refine Fs rfl ?_
    refine Fs rfl ?_
    refine Fs rfl ?_
    refine Fs rfl ?_
    refine Fq (.bool true) (r_pick (b := true) rfl ek ek) ?_
    apply F.es
    apply h10
    as_aux_lemma =>
     refine wp_cond_true ek ?_
     refine wp_exit ?_
     apply h8
     refine Rq 3 ?_
     refine Fv (.int .i64 (i : Int)) ?_
     refine Fq (.int .i64 ((i + 1 : Nat) : Int)) (r_add (m := (i : Int)) (n := 1) (z := ((i + 1 : Nat) : Int)) rfl ek ek (by omega) (by omega)) ?_
     refine Fa (.int .i64 ((i + 1 : Nat) : Int)) ?_
     apply F.es
     obtain ⟨f9, rfl⟩ : ∃ f9, f = f9 + 1 := ⟨f - 1, by omega⟩
     exact h5 _ _ _ (by omega : (s.size + 1 - (i + 1)) < _) ⟨i + 1, f9, zs, A0_5, n0_5, c0_5, Kn.of, rfl, (by omega), (by omega), (by rw [← hacc, nums_skip (by omega) (by omega)]), (by omega), ho0_5, c11⟩
   refine Fq (.bool false) (r_lssK (k := .u8) (m := ((bAt s i : Nat) : Int)) (n := 48) rfl ek ek (df q14)) ?_
   refine Fv (.bool false) ?_
   refine Fv (.string s) ?_
   refine Fv (.int .i64 (i : Int)) ?_
   refine Fq (.int .u8 ((bAt s i : Nat) : Int)) (r_indexS (s := s) (k := i) rfl ek ek kk (by omega)) ?_
   by_cases q15 : (((bAt s i : Nat) : Int) : Int) > (57 : Int)
   ·refine Fq (.bool true) (r_gtrK (k := .u8) (m := ((bAt s i : Nat) : Int)) (n := 57) rfl ek ek (dt q15)) ?_
    refine Fq (.bool true) (r_pick (b := false) rfl ek ek) ?_
    apply F.es
    apply h10
    refine wp_cond_true ek ?_
    refine wp_exit ?_
    apply h8
    refine Rq 3 ?_
    refine Fv (.int .i64 (i : Int)) ?_
    refine Fq (.int .i64 ((i + 1 : Nat) : Int)) (r_add (m := (i : Int)) (n := 1) (z := ((i + 1 : Nat) : Int)) rfl ek ek (by omega) (by omega)) ?_
    refine Fa (.int .i64 ((i + 1 : Nat) : Int)) ?_
    apply F.es
    obtain ⟨f9, rfl⟩ : ∃ f9, f = f9 + 1 := ⟨f - 1, by omega⟩
    exact h5 _ _ _ (by omega : (s.size + 1 - (i + 1)) < _) ⟨i + 1, f9, zs, A0_5, n0_5, c0_5, Kn.of, rfl, (by omega), (by omega), (by rw [← hacc, nums_skip (by omega) (by omega)]), (by omega), ho0_5, c11⟩
   refine Fq (.bool false) (r_gtrK (k := .u8) (m := ((bAt s i : Nat) : Int)) (n := 57) rfl ek ek (df q15)) ?_
   refine Fq (.bool false) (r_pick (b := false) rfl ek ek) ?_
   apply F.es
   apply h10
   refine wp_cond_false ek ?_
   apply wp_skip
   apply h9
   refine wk fun K11 h11 => ?_
   refine Rq 2 ?_
   refine Fa (.int .i64 0) ?_
   refine Fa (.int .i64 0) ?_
   apply F.es
   apply h11
   refine wk fun K12 h12 => ?_
   refine wp_block ?_
   refine loopK (fun am1 aa1 wl1 => ∃ (j : Nat) (v : Nat) (d : Nat) , Kn aa1 [(0, .string s), (1, .int .i64 (mo : Int)), (4, .slice none 0 0), (5, .slice A0_5 n0_5 c0_5), (6, .int .i64 (j : Int)), (7, .int .i64 (v : Int)), (8, .int .i64 (d : Int)), (19, .bool true), (31, .bool false)] 69 ∧ (am1 = s.size - j) ∧ (i ≤ j ∧ j ≤ s.size) ∧ (d ≤ 6 ∧ i + d = j) ∧ (runTo s (6 - d) j v = runTo s 6 i 0) ∧ (v < 10 ^ d) ∧ (wl1.ownsRow w.heap.size 3 1 (.slice A0_5 n0_5 c0_5) n0_5 (intsV zs)) ∧ (Below w.heap.size w wl1)) (s.size - i) ?_ ?_
   ·exact ⟨i, 0, 0, Kn.of, rfl, (⟨by omega, by omega⟩), (⟨by omega, by omega⟩), rfl, (by decide), ho0_5, c11⟩
   rintro am1 aa1 wl1 K13 h13 ⟨j, v, d, ⟨U1, rfl⟩, rfl, hj, hd, hrun, hv, ho1_5, c16⟩
   refine wk fun K14 h14 => ?_
   refine wk fun K15 h15 => ?_
   refine Rq 20 ?_
   refine Fv (.int .i64 (j : Int)) ?_
   refine Fv (.string s) ?_
   refine Fq (.int .i64 ((s.size : Nat) : Int)) (r_lenS (s := s) rfl ek kk) ?_
   by_cases q17 : ((j : Int) : Int) < (((s.size : Nat) : Int) : Int)
   ·refine Fq (.bool true) (r_lss (m := (j : Int)) (n := ((s.size : Nat) : Int)) rfl ek ek (dt q17)) ?_
    refine Fv (.bool true) ?_
    refine Fv (.string s) ?_
    refine Fv (.int .i64 (j : Int)) ?_
    refine Fq (.int .u8 ((bAt s j : Nat) : Int)) (r_indexS (s := s) (k := j) rfl ek ek kk (by omega)) ?_
    by_cases q18 : (((bAt s j : Nat) : Int) : Int) ≥ (48 : Int)
    ·refine Fq (.bool true) (r_geqK (k := .u8) (m := ((bAt s j : Nat) : Int)) (n := 48) rfl ek ek (dt q18)) ?_
     refine Fq (.bool true) (r_pick (b := true) rfl ek ek) ?_
     refine Fv (.bool true) ?_
     refine Fv (.string s) ?_
     refine Fv (.int .i64 (j : Int)) ?_
     refine Fq (.int .u8 ((bAt s j : Nat) : Int)) (r_indexS (s := s) (k := j) rfl ek ek kk (by omega)) ?_
     by_cases q19 : (((bAt s j : Nat) : Int) : Int) ≤ (57 : Int)
     ·refine Fq (.bool true) (r_leqK (k := .u8) (m := ((bAt s j : Nat) : Int)) (n := 57) rfl ek ek (dt q19)) ?_
      refine Fq (.bool true) (r_pick (b := true) rfl ek ek) ?_
      refine Fv (.bool true) ?_
      refine Fv (.int .i64 (d : Int)) ?_
      by_cases q20 : ((d : Int) : Int) < (6 : Int)
      ·refine Fq (.bool true) (r_lss (m := (d : Int)) (n := 6) rfl ek ek (dt q20)) ?_
       refine Fq (.bool true) (r_pick (b := true) rfl ek ek) ?_
       apply F.es
       apply h15
       as_aux_lemma =>
        refine wp_cond_true ek ?_
        apply wp_skip
        apply h14
        refine wk fun K16 h16 => ?_
        refine wp_block ?_
        refine wk fun K17 h17 => ?_
        refine Rq 9 ?_
        refine Fv (.int .i64 (v : Int)) ?_
        have hv6 := pow6 hv hd.1
        refine Fq (.int .i64 ((10 * v : Nat) : Int)) (r_mulK (k := .i64) (m := 10) (n := (v : Int)) (z := ((10 * v : Nat) : Int)) rfl ek ek (by rw [show (10 : Int) * (v : Int) = ((10 * v : Nat) : Int) by omega]; exact wrap_i64 (by omega) (by omega))) ?_
        refine Fv (.string s) ?_
        refine Fv (.int .i64 (j : Int)) ?_
        refine Fq (.int .u8 ((bAt s j : Nat) : Int)) (r_indexS (s := s) (k := j) rfl ek ek kk (by omega)) ?_
        refine Fq (.int .u8 (((bAt s j - 48) : Nat) : Int)) (r_subK (k := .u8) (m := ((bAt s j : Nat) : Int)) (n := 48) (z := (((bAt s j - 48) : Nat) : Int)) rfl ek ek (by rw [show (((bAt s j : Nat) : Int) - 48) = (((bAt s j - 48 : Nat)) : Int) by omega]; exact IntWalk.u8_in _ (by have := bAt_lt s j; omega))) ?_
        refine Fq (.int .i64 (((bAt s j - 48) : Nat) : Int)) (r_conv (k := .u8) (k' := .i64) (n := (((bAt s j - 48) : Nat) : Int)) (m := (((bAt s j - 48) : Nat) : Int)) rfl ek kk kk (wrap_i64 (by omega) (by omega))) ?_
        refine Fq (.int .i64 ((10 * v + (bAt s j - 48) : Nat) : Int)) (r_add (m := ((10 * v : Nat) : Int)) (n := (((bAt s j - 48) : Nat) : Int)) (z := ((10 * v + (bAt s j - 48) : Nat) : Int)) rfl ek ek (by omega) (by omega)) ?_
        refine Fa (.int .i64 ((10 * v + (bAt s j - 48) : Nat) : Int)) ?_
        apply F.es
        apply h17
        refine Rq 3 ?_
        refine Fv (.int .i64 (d : Int)) ?_
        refine Fq (.int .i64 ((d + 1 : Nat) : Int)) (r_add (m := (d : Int)) (n := 1) (z := ((d + 1 : Nat) : Int)) rfl ek ek (by omega) (by omega)) ?_
        refine Fa (.int .i64 ((d + 1 : Nat) : Int)) ?_
        apply F.es
        apply h16
        refine Rq 3 ?_
        refine Fv (.int .i64 (j : Int)) ?_
        refine Fq (.int .i64 ((j + 1 : Nat) : Int)) (r_add (m := (j : Int)) (n := 1) (z := ((j + 1 : Nat) : Int)) rfl ek ek (by omega) (by omega)) ?_
        refine Fa (.int .i64 ((j + 1 : Nat) : Int)) ?_
        apply F.es
        exact h13 _ _ _ (by omega : (s.size - (j + 1)) < _) ⟨j + 1, 10 * v + (bAt s j - 48), d + 1, Kn.of, rfl, (⟨by omega, by omega⟩), (⟨by omega, by omega⟩), (run_step hrun (by omega) (by omega) (by omega) (by omega)), (pow_step hv (by omega)), ho1_5, c16⟩
      refine Fq (.bool false) (r_lss (m := (d : Int)) (n := 6) rfl ek ek (df q20)) ?_
      refine Fq (.bool false) (r_pick (b := true) rfl ek ek) ?_
      apply F.es
      apply h15
      refine wp_cond_false ek ?_
      refine wp_exit ?_
      apply h12
      refine W.region_plain (row := (Value.ownBlock (.slice A0_5 n0_5 c0_5))) [(0, false), (1, false), (2, true), (3, true), (4, false)] kk ?_
      have s21 := SG.self wl1 (Value.ownBlock (.slice A0_5 n0_5 c0_5))
      refine Fv (.slice A0_5 n0_5 c0_5) ?_
      refine Fv (.int .i64 (v : Int)) ?_
      refine W.sn (fun b => .slice (some ⟨b, 0, none⟩) 1 1) #[.int .i64 (v : Int)] 3 s21 rfl kk rfl (fun _ => by kernel_rfl) (fun b22 w23 hb24 k25 x26 s27 => ?_)
      apply F.nx
      have lo28 : w.heap.size ≤ b22 := Nl ((Sb c16 s21 (fun kq e => (World.ownsRow.lt ho1_5 kq e).1))).size (Nat.le_of_eq hb24)
      have ho30 := own_kept ho1_5 k25
      refine W.sap (e := 3) (size := 1) (base := w.heap.size) (m := 1) (v := .slice A0_5 n0_5 c0_5) (c := 1) s27 rfl rfl rfl rfl kk kk kk ho30 x26 kk kk (by omega) (by omega) (by have := ((Sb c16 s27 (fun kq e => (World.ownsRow.lt ho1_5 kq e).1))).size; omega) (.inl rfl) (fun g31 cap32 w33 ho34 hg35 hat36 hlt37 s38 => ?_)
      apply F.nx
      have ho34 := own_snoc ho34
      refine Fa (.slice (some ⟨g31, 0, none⟩) (n0_5 + 1) cap32) ?_
      apply F.es
      have c40 := (Sb c16 s38 (fun kq e => (World.ownsRow.lt ho1_5 kq e).1))
      apply h8
      refine Rq 3 ?_
      refine Fv (.int .i64 (j : Int)) ?_
      refine Fq (.int .i64 ((j + 1 : Nat) : Int)) (r_add (m := (j : Int)) (n := 1) (z := ((j + 1 : Nat) : Int)) rfl ek ek (by omega) (by omega)) ?_
      refine Fa (.int .i64 ((j + 1 : Nat) : Int)) ?_
      apply F.es
      obtain ⟨f9, rfl⟩ : ∃ f9, f = f9 + 1 := ⟨f - 1, by omega⟩
      have hrr : runTo s 6 i 0 = (v, j) := run_end hrun (by omega)
      exact h5 _ _ _ (by omega : (s.size + 1 - (j + 1)) < _) ⟨j + 1, f9, (zs ++ [(v : Int)]), (some ⟨g31, 0, none⟩), (n0_5 + 1), cap32, Kn.of, rfl, (by omega), (by omega), (by rw [List.append_assoc, ← hacc, nums_run (v := v) (j := j) (by omega) ⟨by omega, by omega⟩ hrr]; try rfl), (by rw [List.length_append, List.length_singleton]; omega), ho34, c40⟩
     refine Fq (.bool false) (r_leqK (k := .u8) (m := ((bAt s j : Nat) : Int)) (n := 57) rfl ek ek (df q19)) ?_
     refine Fq (.bool false) (r_pick (b := true) rfl ek ek) ?_
     refine Fv (.bool false) ?_
     refine Fs rfl ?_
     refine Fs rfl ?_
     refine Fq (.bool false) (r_pick (b := false) rfl ek ek) ?_
     apply F.es
     apply h15
     as_aux_lemma =>
      refine wp_cond_false ek ?_
      refine wp_exit ?_
      apply h12
      refine W.region_plain (row := (Value.ownBlock (.slice A0_5 n0_5 c0_5))) [(0, false), (1, false), (2, true), (3, true), (4, false)] kk ?_
      have s41 := SG.self wl1 (Value.ownBlock (.slice A0_5 n0_5 c0_5))
      refine Fv (.slice A0_5 n0_5 c0_5) ?_
      refine Fv (.int .i64 (v : Int)) ?_
      refine W.sn (fun b => .slice (some ⟨b, 0, none⟩) 1 1) #[.int .i64 (v : Int)] 3 s41 rfl kk rfl (fun _ => by kernel_rfl) (fun b42 w43 hb44 k45 x46 s47 => ?_)
      apply F.nx
      have lo48 : w.heap.size ≤ b42 := Nl ((Sb c16 s41 (fun kq e => (World.ownsRow.lt ho1_5 kq e).1))).size (Nat.le_of_eq hb44)
      have ho50 := own_kept ho1_5 k45
      refine W.sap (e := 3) (size := 1) (base := w.heap.size) (m := 1) (v := .slice A0_5 n0_5 c0_5) (c := 1) s47 rfl rfl rfl rfl kk kk kk ho50 x46 kk kk (by omega) (by omega) (by have := ((Sb c16 s47 (fun kq e => (World.ownsRow.lt ho1_5 kq e).1))).size; omega) (.inl rfl) (fun g51 cap52 w53 ho54 hg55 hat56 hlt57 s58 => ?_)
      apply F.nx
      have ho54 := own_snoc ho54
      refine Fa (.slice (some ⟨g51, 0, none⟩) (n0_5 + 1) cap52) ?_
      apply F.es
      have c60 := (Sb c16 s58 (fun kq e => (World.ownsRow.lt ho1_5 kq e).1))
      apply h8
      refine Rq 3 ?_
      refine Fv (.int .i64 (j : Int)) ?_
      refine Fq (.int .i64 ((j + 1 : Nat) : Int)) (r_add (m := (j : Int)) (n := 1) (z := ((j + 1 : Nat) : Int)) rfl ek ek (by omega) (by omega)) ?_
      refine Fa (.int .i64 ((j + 1 : Nat) : Int)) ?_
      apply F.es
      obtain ⟨f9, rfl⟩ : ∃ f9, f = f9 + 1 := ⟨f - 1, by omega⟩
      have hrr : runTo s 6 i 0 = (v, j) := run_end hrun (by omega)
      exact h5 _ _ _ (by omega : (s.size + 1 - (j + 1)) < _) ⟨j + 1, f9, (zs ++ [(v : Int)]), (some ⟨g51, 0, none⟩), (n0_5 + 1), cap52, Kn.of, rfl, (by omega), (by omega), (by rw [List.append_assoc, ← hacc, nums_run (v := v) (j := j) (by omega) ⟨by omega, by omega⟩ hrr]; try rfl), (by rw [List.length_append, List.length_singleton]; omega), ho54, c60⟩
    refine Fq (.bool false) (r_geqK (k := .u8) (m := ((bAt s j : Nat) : Int)) (n := 48) rfl ek ek (df q18)) ?_
    refine Fq (.bool false) (r_pick (b := true) rfl ek ek) ?_
    refine Fv (.bool false) ?_
    refine Fs rfl ?_
    refine Fs rfl ?_
    refine Fs rfl ?_
    refine Fs rfl ?_
    refine Fq (.bool false) (r_pick (b := false) rfl ek ek) ?_
    refine Fv (.bool false) ?_
    refine Fs rfl ?_
    refine Fs rfl ?_
    refine Fq (.bool false) (r_pick (b := false) rfl ek ek) ?_
    apply F.es
    apply h15
    refine wp_cond_false ek ?_
    refine wp_exit ?_
    apply h12
    refine W.region_plain (row := (Value.ownBlock (.slice A0_5 n0_5 c0_5))) [(0, false), (1, false), (2, true), (3, true), (4, false)] kk ?_
    have s61 := SG.self wl1 (Value.ownBlock (.slice A0_5 n0_5 c0_5))
    refine Fv (.slice A0_5 n0_5 c0_5) ?_
    refine Fv (.int .i64 (v : Int)) ?_
    refine W.sn (fun b => .slice (some ⟨b, 0, none⟩) 1 1) #[.int .i64 (v : Int)] 3 s61 rfl kk rfl (fun _ => by kernel_rfl) (fun b62 w63 hb64 k65 x66 s67 => ?_)
    apply F.nx
    have lo68 : w.heap.size ≤ b62 := Nl ((Sb c16 s61 (fun kq e => (World.ownsRow.lt ho1_5 kq e).1))).size (Nat.le_of_eq hb64)
    have ho70 := own_kept ho1_5 k65
    refine W.sap (e := 3) (size := 1) (base := w.heap.size) (m := 1) (v := .slice A0_5 n0_5 c0_5) (c := 1) s67 rfl rfl rfl rfl kk kk kk ho70 x66 kk kk (by omega) (by omega) (by have := ((Sb c16 s67 (fun kq e => (World.ownsRow.lt ho1_5 kq e).1))).size; omega) (.inl rfl) (fun g71 cap72 w73 ho74 hg75 hat76 hlt77 s78 => ?_)
    apply F.nx
    have ho74 := own_snoc ho74
    refine Fa (.slice (some ⟨g71, 0, none⟩) (n0_5 + 1) cap72) ?_
    apply F.es
    have c80 := (Sb c16 s78 (fun kq e => (World.ownsRow.lt ho1_5 kq e).1))
    apply h8
    as_aux_lemma =>
     refine Rq 3 ?_
     refine Fv (.int .i64 (j : Int)) ?_
     refine Fq (.int .i64 ((j + 1 : Nat) : Int)) (r_add (m := (j : Int)) (n := 1) (z := ((j + 1 : Nat) : Int)) rfl ek ek (by omega) (by omega)) ?_
     refine Fa (.int .i64 ((j + 1 : Nat) : Int)) ?_
     apply F.es
     obtain ⟨f9, rfl⟩ : ∃ f9, f = f9 + 1 := ⟨f - 1, by omega⟩
     have hrr : runTo s 6 i 0 = (v, j) := run_end hrun (by omega)
     exact h5 _ _ _ (by omega : (s.size + 1 - (j + 1)) < _) ⟨j + 1, f9, (zs ++ [(v : Int)]), (some ⟨g71, 0, none⟩), (n0_5 + 1), cap72, Kn.of, rfl, (by omega), (by omega), (by rw [List.append_assoc, ← hacc, nums_run (v := v) (j := j) (by omega) ⟨by omega, by omega⟩ hrr]; try rfl), (by rw [List.length_append, List.length_singleton]; omega), ho74, c80⟩
   refine Fq (.bool false) (r_lss (m := (j : Int)) (n := ((s.size : Nat) : Int)) rfl ek ek (df q17)) ?_
   refine Fv (.bool false) ?_
   refine Fs rfl ?_
   refine Fs rfl ?_
   refine Fs rfl ?_
   refine Fs rfl ?_
   refine Fq (.bool false) (r_pick (b := false) rfl ek ek) ?_
   refine Fv (.bool false) ?_
   refine Fs rfl ?_
   refine Fs rfl ?_
   refine Fs rfl ?_
   refine Fs rfl ?_
   refine Fq (.bool false) (r_pick (b := false) rfl ek ek) ?_
   refine Fv (.bool false) ?_
   refine Fs rfl ?_
   refine Fs rfl ?_
   refine Fq (.bool false) (r_pick (b := false) rfl ek ek) ?_
   apply F.es
   apply h15
   refine wp_cond_false ek ?_
   refine wp_exit ?_
   apply h12
   refine W.region_plain (row := (Value.ownBlock (.slice A0_5 n0_5 c0_5))) [(0, false), (1, false), (2, true), (3, true), (4, false)] kk ?_
   have s81 := SG.self wl1 (Value.ownBlock (.slice A0_5 n0_5 c0_5))
   refine Fv (.slice A0_5 n0_5 c0_5) ?_
   refine Fv (.int .i64 (v : Int)) ?_
   refine W.sn (fun b => .slice (some ⟨b, 0, none⟩) 1 1) #[.int .i64 (v : Int)] 3 s81 rfl kk rfl (fun _ => by kernel_rfl) (fun b82 w83 hb84 k85 x86 s87 => ?_)
   apply F.nx
   have lo88 : w.heap.size ≤ b82 := Nl ((Sb c16 s81 (fun kq e => (World.ownsRow.lt ho1_5 kq e).1))).size (Nat.le_of_eq hb84)
   have ho90 := own_kept ho1_5 k85
   refine W.sap (e := 3) (size := 1) (base := w.heap.size) (m := 1) (v := .slice A0_5 n0_5 c0_5) (c := 1) s87 rfl rfl rfl rfl kk kk kk ho90 x86 kk kk (by omega) (by omega) (by have := ((Sb c16 s87 (fun kq e => (World.ownsRow.lt ho1_5 kq e).1))).size; omega) (.inl rfl) (fun g91 cap92 w93 ho94 hg95 hat96 hlt97 s98 => ?_)
   apply F.nx
   have ho94 := own_snoc ho94
   refine Fa (.slice (some ⟨g91, 0, none⟩) (n0_5 + 1) cap92) ?_
   apply F.es
   have c100 := (Sb c16 s98 (fun kq e => (World.ownsRow.lt ho1_5 kq e).1))
   apply h8
   refine Rq 3 ?_
   refine Fv (.int .i64 (j : Int)) ?_
   refine Fq (.int .i64 ((j + 1 : Nat) : Int)) (r_add (m := (j : Int)) (n := 1) (z := ((j + 1 : Nat) : Int)) rfl ek ek (by omega) (by omega)) ?_
   refine Fa (.int .i64 ((j + 1 : Nat) : Int)) ?_
   apply F.es
   obtain ⟨f9, rfl⟩ : ∃ f9, f = f9 + 1 := ⟨f - 1, by omega⟩
   have hrr : runTo s 6 i 0 = (v, j) := run_end hrun (by omega)
   exact h5 _ _ _ (by omega : (s.size + 1 - (j + 1)) < _) ⟨j + 1, f9, (zs ++ [(v : Int)]), (some ⟨g91, 0, none⟩), (n0_5 + 1), cap92, Kn.of, rfl, (by omega), (by omega), (by rw [List.append_assoc, ← hacc, nums_run (v := v) (j := j) (by omega) ⟨by omega, by omega⟩ hrr]; try rfl), (by rw [List.length_append, List.length_singleton]; omega), ho94, c100⟩
  refine Fq (.bool false) (r_lss (m := (n0_5 : Int)) (n := (mo : Int)) rfl ek ek (df q13)) ?_
  refine Fq (.bool false) (r_pick (b := true) rfl ek ek) ?_
  apply F.es
  apply h7
  refine wp_cond_false ek ?_
  refine wp_exit ?_
  apply h3
  as_aux_lemma =>
   refine wk fun K18 h18 => ?_
   refine Rq 2 ?_
   refine Fv (.slice A0_5 n0_5 c0_5) ?_
   refine Fa (.slice A0_5 n0_5 c0_5) ?_
   apply F.es
   apply h18
   refine wp_ret ?_
   try simp only [Exit.then]
   refine ret1 (v := .slice A0_5 n0_5 c0_5) rfl kk ?_
   have hdn : numsOf s mo = zs := nums_done hacc hzl (by by_cases h9 : i < s.size; exact .inr (by omega); exact .inl (nums_end h9 _))
   rw [hdn]
   exact ⟨_, _, _, rfl, ho0_5, by omega, c11⟩
 refine Fq (.bool false) (r_lss (m := (i : Int)) (n := ((s.size : Nat) : Int)) rfl ek ek (df q12)) ?_
 refine Fv (.bool false) ?_
 refine Fs rfl ?_
 refine Fs rfl ?_
 refine Fs rfl ?_
 refine Fs rfl ?_
 refine Fq (.bool false) (r_pick (b := false) rfl ek ek) ?_
 apply F.es
 apply h7
 refine wp_cond_false ek ?_
 refine wp_exit ?_
 apply h3
 refine wk fun K19 h19 => ?_
 refine Rq 2 ?_
 refine Fv (.slice A0_5 n0_5 c0_5) ?_
 refine Fa (.slice A0_5 n0_5 c0_5) ?_
 apply F.es
 apply h19
 refine wp_ret ?_
 try simp only [Exit.then]
 refine ret1 (v := .slice A0_5 n0_5 c0_5) rfl kk ?_
 have hdn : numsOf s mo = zs := nums_done hacc hzl (by by_cases h9 : i < s.size; exact .inr (by omega); exact .inl (nums_end h9 _))
 rw [hdn]
 exact ⟨_, _, _, rfl, ho0_5, by omega, c11⟩
end Go.Proofs.YtdlcldaogcbnlaaDoor
