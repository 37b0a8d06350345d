/- Texts joined: both packages. -/
import Derived.Test.YtgpallafdmjbdaaStrT
import Derived.Test.YtgpallafdmjbdaaSplit
import Derived.Test.YtgpallafdmjbdaaShelfJ
namespace Go.Proofs.Ytgpallafdmjbdaa
open Go.RowKit
set_option linter.unusedVariables false
set_option linter.unusedSimpArgs false

theorem join_lib (A : Option Addr) (n c : Nat) (zs : List ByteArray) (sep : ByteArray) (w : World) (ha : Rd w 1 A n (strsV zs)) (hf : Fm A n c) (hn : 0 < n) (hm : n ≤ 1048576) (hb : (joinB zs sep).size ≤ 4096) :
    Calls Try.prog 32 #[.slice A n c, .string sep] w fun e w' => e = .returned (.string (joinB zs sep)) ∧ Below w.heap.size w w' := by
  have hl := rd_strs_len ha
  obtain ⟨b, off, rfl, hb1, hc⟩ := ha.2 hn
  subst hl
  exact Try.strings_Join b off c zs sep w (fun j x hx => hc j _ (by unfold strsV; rw [List.getElem?_map, hx]; rfl)) hb1 (by omega) hf.le (by have he : (Lib.join (zs.map (·.data.toList)) sep.data.toList).length = (joinB zs sep).size := (by rw [Lib.size_eq]; rfl); omega)
theorem index_lib (s : ByteArray) (k : Nat) (hk : k < 256) (w : World) : Calls Try.prog 31 #[.string s, .int .u8 ((k : Nat) : Int)] w fun e w' => e = .returned (.int .i64 (idxB s k)) ∧ Below w.heap.size w w' :=
  (Try.strings_IndexByte s _ w).mono fun e w' ⟨h, h2⟩ => ⟨h, by subst h2; exact Below.refl _ _⟩

set_option maxRecDepth 100000 in
set_option maxHeartbeats 1000000 in
theorem JoinStrings_spec (A : Option Addr) (n c : Nat) (zs : List ByteArray) (sep : ByteArray) (w : World) (ha : Rd w 1 A n (strsV zs)) (hn : n ≤ 1048576) (hx : ∀ x ∈ zs, x.size ≤ 1048576) (_h1 : sep.size ≤ 1048576) :
    Calls Try.prog 19 #[.slice A n c, .string sep] w fun e w' => e = .returned (.tuple #[.string (JoinStrings_v0 zs sep), .bool (JoinStrings_v1 zs sep)]) ∧ Below w.heap.size w w' := by
  have hl := rd_strs_len ha
  go_enter Try.func19, Try.ntmps19
  refine wp_seq_k (fun K1 h1 => ?_)
  refine W.region_quiet [(0, false), (1, false)] (by kernel_rfl) ?_
  refine W.as (v := .string (⟨#[]⟩ : ByteArray)) (h := ?_)
  refine W.as (v := .bool false) (h := ?_)
  refine W.endF 44 [(0, .slice A n c), (1, .string sep), (4, .string (⟨#[]⟩ : ByteArray)), (5, .bool false)] (fun U1 => ?_)
  refine h1 _ _ ?_
  refine wp_seq_k (fun K2 h2 => ?_)
  refine wp_seq_k (fun K3 h3 => ?_)
  refine W.region_quiet [(0, false), (1, false), (2, false), (3, false), (4, false), (5, false), (6, false), (7, false)] (by kernel_rfl) ?_
  refine W.mv (v := .string sep) (h := ?_)
  refine W.q (v := .int .i64 ((sep.size : Nat) : Int)) (hr := (r_lenS (s := sep) rfl (by kernel_rfl) (by kernel_rfl))) (h := ?_)
  by_cases q2 : (((sep.size : Nat) : Int) : Int) ≠ (1 : Int)
  · refine W.q (v := .bool true) (hr := (r_neq (m := ((sep.size : Nat) : Int)) (n := 1) rfl (by kernel_rfl) (by kernel_rfl) (decide_eq_true q2))) (h := ?_)
    refine W.mv (v := .bool true) (h := ?_)
    refine W.sp rfl (h := ?_)
    refine W.sp rfl (h := ?_)
    refine W.sp rfl (h := ?_)
    refine W.q (v := .bool true) (hr := (r_pick (b := true) rfl (by kernel_rfl) (by kernel_rfl))) (h := ?_)
    refine W.endF 44 [(0, .slice A n c), (1, .string sep), (4, .string (⟨#[]⟩ : ByteArray)), (5, .bool false), (15, .bool true)] (fun U3 => ?_)
    refine h3 _ _ ?_
    refine wp_cond_true (by kernel_rfl) ?_
    refine wp_seq_k (fun K4 h4 => ?_)
    refine W.region_quiet [(0, false), (1, false)] (by kernel_rfl) ?_
    refine W.as (v := .string (⟨#[]⟩ : ByteArray)) (h := ?_)
    refine W.as (v := .bool false) (h := ?_)
    refine W.endF 44 [(0, .slice A n c), (1, .string sep), (4, .string (⟨#[]⟩ : ByteArray)), (5, .bool false), (15, .bool true)] (fun U4 => ?_)
    refine h4 _ _ ?_
    refine wp_ret ?_
    try simp only [Exit.then]
    refine ret2 (v := .string (⟨#[]⟩ : ByteArray)) (x := .bool false) rfl (by kernel_rfl) (by kernel_rfl) ?_
    have e7 : JoinStrings_v1 zs sep = false := join_no1 (by omega)
    exact ⟨by unfold JoinStrings_v0; rw [if_neg (by rw [e7]; simp), e7], (Below.refl _ _)⟩
  · refine W.q (v := .bool false) (hr := (r_neq (m := ((sep.size : Nat) : Int)) (n := 1) rfl (by kernel_rfl) (by kernel_rfl) (decide_eq_false q2))) (h := ?_)
    refine W.mv (v := .bool false) (h := ?_)
    refine W.mv (v := .slice A n c) (h := ?_)
    refine W.q (v := .int .i64 ((n : Nat) : Int)) (hr := (r_len (A := A) (n := n) (c := c) rfl (by kernel_rfl) (by kernel_rfl))) (h := ?_)
    by_cases q5 : (((n : Nat) : Int) : Int) = (0 : Int)
    · refine W.q (v := .bool true) (hr := (r_eql (m := ((n : Nat) : Int)) (n := 0) rfl (by kernel_rfl) (by kernel_rfl) (decide_eq_true q5))) (h := ?_)
      refine W.q (v := .bool true) (hr := (r_pick (b := false) rfl (by kernel_rfl) (by kernel_rfl))) (h := ?_)
      refine W.endF 44 [(0, .slice A n c), (1, .string sep), (4, .string (⟨#[]⟩ : ByteArray)), (5, .bool false), (15, .bool true)] (fun U6 => ?_)
      refine h3 _ _ ?_
      refine wp_cond_true (by kernel_rfl) ?_
      refine wp_seq_k (fun K5 h5 => ?_)
      refine W.region_quiet [(0, false), (1, false)] (by kernel_rfl) ?_
      refine W.as (v := .string (⟨#[]⟩ : ByteArray)) (h := ?_)
      refine W.as (v := .bool false) (h := ?_)
      refine W.endF 44 [(0, .slice A n c), (1, .string sep), (4, .string (⟨#[]⟩ : ByteArray)), (5, .bool false), (15, .bool true)] (fun U7 => ?_)
      refine h5 _ _ ?_
      refine wp_ret ?_
      try simp only [Exit.then]
      refine ret2 (v := .string (⟨#[]⟩ : ByteArray)) (x := .bool false) rfl (by kernel_rfl) (by kernel_rfl) ?_
      have e7 : JoinStrings_v1 zs sep = false := join_no1 (by omega)
      exact ⟨by unfold JoinStrings_v0; rw [if_neg (by rw [e7]; simp), e7], (Below.refl _ _)⟩
    · refine W.q (v := .bool false) (hr := (r_eql (m := ((n : Nat) : Int)) (n := 0) rfl (by kernel_rfl) (by kernel_rfl) (decide_eq_false q5))) (h := ?_)
      refine W.q (v := .bool false) (hr := (r_pick (b := false) rfl (by kernel_rfl) (by kernel_rfl))) (h := ?_)
      refine W.endF 44 [(0, .slice A n c), (1, .string sep), (4, .string (⟨#[]⟩ : ByteArray)), (5, .bool false), (15, .bool false)] (fun U8 => ?_)
      refine h3 _ _ ?_
      refine wp_cond_false (by kernel_rfl) ?_
      refine wp_skip ?_
      refine h2 _ _ ?_
      refine wp_seq_k (fun K6 h6 => ?_)
      refine W.region_quiet [(0, false)] (by kernel_rfl) ?_
      refine W.as (v := .string (⟨#[]⟩ : ByteArray)) (h := ?_)
      refine W.endF 44 [(0, .slice A n c), (1, .string sep), (4, .string (⟨#[]⟩ : ByteArray)), (5, .bool false), (6, .string (⟨#[]⟩ : ByteArray)), (15, .bool false)] (fun U9 => ?_)
      refine h6 _ _ ?_
      refine wp_seq_k (fun K7 h7 => ?_)
      refine wp_seq_k (fun K8 h8 => ?_)
      refine W.region_quiet [(0, false)] (by kernel_rfl) ?_
      refine W.as (v := .int .i64 0) (h := ?_)
      refine W.endF 44 [(0, .slice A n c), (1, .string sep), (4, .string (⟨#[]⟩ : ByteArray)), (5, .bool false), (6, .string (⟨#[]⟩ : ByteArray)), (7, .int .i64 0), (15, .bool false)] (fun U10 => ?_)
      refine h8 _ _ ?_
      refine wp_block ?_
      refine loopK (fun am0 aa0 wl0 => ∃ (k : Nat) (out : ByteArray) (U0 : Nat → Value), aa0 = ⟨(fr U0 [(0, .slice A n c), (1, .string sep), (4, .string (⟨#[]⟩ : ByteArray)), (5, .bool false), (6, .string out), (7, .int .i64 ((k : Nat) : Int)), (15, .bool false)] 44 0).toArray, []⟩ ∧ (am0 = n - k) ∧ (k ≤ n) ∧ (out = joinB (zs.take k) sep) ∧ (out.size = lenSum (zs.take k) + (k - 1)) ∧ (∀ x, x ∈ zs.take k → standsB x (bAt sep 0) = false) ∧ (out.size ≤ 4000) ∧ (Below w.heap.size w wl0)) (n - 0) ?_ ?_
      · exact ⟨0, (⟨#[]⟩ : ByteArray), (fun iU9 => lk [(0, .slice A n c), (1, .string sep), (4, .string (⟨#[]⟩ : ByteArray)), (5, .bool false), (6, .string (⟨#[]⟩ : ByteArray)), (7, .int .i64 0), (15, .bool false)] iU9 (U10 iU9)), (by kernel_rfl), rfl, (Nat.zero_le _), rfl, rfl, (fun x h => by simp at h), (by decide), (Below.refl _ _)⟩
      rintro am0 aa0 wl0 K9 h9 ⟨k, out, U0, rfl, rfl, hk, hout, hosz, hall, hsz, c11⟩
      refine wp_seq_k (fun K10 h10 => ?_)
      refine wp_seq_k (fun K11 h11 => ?_)
      refine W.region_quiet [(0, false), (1, false), (2, false), (3, false)] (by kernel_rfl) ?_
      refine W.mv (v := .int .i64 ((k : Nat) : Int)) (h := ?_)
      refine W.mv (v := .slice A n c) (h := ?_)
      refine W.q (v := .int .i64 ((n : Nat) : Int)) (hr := (r_len (A := A) (n := n) (c := c) rfl (by kernel_rfl) (by kernel_rfl))) (h := ?_)
      by_cases q12 : (((k : Nat) : Int) : Int) < (((n : Nat) : Int) : Int)
      · refine W.q (v := .bool true) (hr := (r_lss (m := ((k : Nat) : Int)) (n := ((n : Nat) : Int)) rfl (by kernel_rfl) (by kernel_rfl) (decide_eq_true q12))) (h := ?_)
        refine W.endF 44 [(0, .slice A n c), (1, .string sep), (4, .string (⟨#[]⟩ : ByteArray)), (5, .bool false), (6, .string out), (7, .int .i64 ((k : Nat) : Int)), (15, .bool false), (19, .bool true)] (fun U13 => ?_)
        refine h11 _ _ ?_
        refine wp_cond_true (by kernel_rfl) ?_
        refine wp_skip ?_
        refine h10 _ _ ?_
        refine wp_seq_k (fun K12 h12 => ?_)
        refine wp_block ?_
        refine wp_seq_k (fun K13 h13 => ?_)
        refine wp_seq_k (fun K14 h14 => ?_)
        refine W.region_sch (row := none) (Sch.of [(0, false), (1, false), (2, false), (3, false), (4, false), (5, false), (6, true)]) (by kernel_rfl) (by kernel_rfl) (fun _ d _ _ _ h => by cases d <;> exact h) (by kernel_rfl) (fun w14 e15 s16 => ?_)
        refine W.mv (v := .slice A n c) (h := ?_)
        refine W.mv (v := .int .i64 ((k : Nat) : Int)) (h := ?_)
        obtain ⟨x17, hx18⟩ := get_of (zs := zs) (k := k) (by have := hl; omega)
        obtain ⟨b19, o20, hA21, hb22, hc23⟩ := Rd.elStr ha hx18
        refine W.q (v := .pointer (some ⟨b19, o20 + k, none⟩)) (hr := (r_idx1 (n := n) (c := c) (k := k) rfl (by kernel_rfl) hA21 (by kernel_rfl) (by kernel_rfl) (by have := hl; omega))) (h := ?_)
        refine W.ld (v := .string x17) (hc := (sgS (later c11 hc23) (by simp))) (h := ?_)
        refine W.mv (v := .string sep) (h := ?_)
        refine W.q (v := .int .u8 ((bAt sep 0 : Nat) : Int)) (hr := (r_indexS (s := sep) (k := 0) rfl (by kernel_rfl) (by kernel_rfl) (by kernel_rfl) (by omega))) (h := ?_)
        refine W.sc (vs := [.string x17, .int .u8 ((bAt sep 0 : Nat) : Int)]) rfl rfl (by kernel_rfl) (by kernel_rfl) (by kernel_rfl) rfl (l1Stands_any x17 (bAt sep 0) _ (by have ge9 := hx _ (List.mem_of_getElem? hx18); omega)) ?_
        rintro e w25 ⟨rfl, b24⟩
        have s26 := SG.of_below s16 b24
        refine ⟨_, rfl, s26, ?_⟩
        rcases Bool.eq_false_or_eq_true (standsB x17 (bAt sep 0)) with q27 | q27
        · rw [q27]
          refine W.endF 44 [(0, .slice A n c), (1, .string sep), (4, .string (⟨#[]⟩ : ByteArray)), (5, .bool false), (6, .string out), (7, .int .i64 ((k : Nat) : Int)), (15, .bool false), (19, .bool true), (28, .bool true)] (fun U28 => ?_)
          have c29 := (SG.belowR c11 s26 (fun kq e => by cases e))
          refine h14 _ _ ?_
          refine wp_cond_true (by kernel_rfl) ?_
          refine wp_seq_k (fun K15 h15 => ?_)
          refine W.region_quiet [(0, false), (1, false)] (by kernel_rfl) ?_
          refine W.as (v := .string (⟨#[]⟩ : ByteArray)) (h := ?_)
          refine W.as (v := .bool false) (h := ?_)
          refine W.endF 44 [(0, .slice A n c), (1, .string sep), (4, .string (⟨#[]⟩ : ByteArray)), (5, .bool false), (6, .string out), (7, .int .i64 ((k : Nat) : Int)), (15, .bool false), (19, .bool true), (28, .bool true)] (fun U30 => ?_)
          refine h15 _ _ ?_
          refine wp_ret ?_
          try simp only [Exit.then, Exit.inBlock]
          refine ret2 (v := .string (⟨#[]⟩ : ByteArray)) (x := .bool false) rfl (by kernel_rfl) (by kernel_rfl) ?_
          have e7 : JoinStrings_v1 zs sep = false := join_no2 hx18 q27
          exact ⟨by unfold JoinStrings_v0; rw [if_neg (by rw [e7]; simp), e7], c29⟩
        · rw [q27]
          refine W.endF 44 [(0, .slice A n c), (1, .string sep), (4, .string (⟨#[]⟩ : ByteArray)), (5, .bool false), (6, .string out), (7, .int .i64 ((k : Nat) : Int)), (15, .bool false), (19, .bool true), (28, .bool false)] (fun U31 => ?_)
          have c32 := (SG.belowR c11 s26 (fun kq e => by cases e))
          refine h14 _ _ ?_
          refine wp_cond_false (by kernel_rfl) ?_
          refine wp_skip ?_
          refine h13 _ _ ?_
          refine wp_seq_k (fun K16 h16 => ?_)
          refine wp_seq_k (fun K17 h17 => ?_)
          refine W.region_quiet [(0, false), (1, false)] (by kernel_rfl) ?_
          refine W.mv (v := .int .i64 ((k : Nat) : Int)) (h := ?_)
          by_cases q33 : (((k : Nat) : Int) : Int) > (0 : Int)
          · refine W.q (v := .bool true) (hr := (r_gtr (m := ((k : Nat) : Int)) (n := 0) rfl (by kernel_rfl) (by kernel_rfl) (decide_eq_true q33))) (h := ?_)
            refine W.endF 44 [(0, .slice A n c), (1, .string sep), (4, .string (⟨#[]⟩ : ByteArray)), (5, .bool false), (6, .string out), (7, .int .i64 ((k : Nat) : Int)), (15, .bool false), (19, .bool true), (28, .bool false), (30, .bool true)] (fun U34 => ?_)
            refine h17 _ _ ?_
            refine wp_cond_true (by kernel_rfl) ?_
            refine W.region_quiet [(0, false), (1, false), (2, false), (3, false)] (by kernel_rfl) ?_
            refine W.mv (v := .string out) (h := ?_)
            refine W.mv (v := .string sep) (h := ?_)
            refine W.q (v := .string (out ++ sep)) (hr := (r_addS (s := out) (r := sep) rfl (by kernel_rfl) (by kernel_rfl) (by omega))) (h := ?_)
            refine W.as (v := .string (out ++ sep)) (h := ?_)
            refine W.endF 44 [(0, .slice A n c), (1, .string sep), (4, .string (⟨#[]⟩ : ByteArray)), (5, .bool false), (6, .string (out ++ sep)), (7, .int .i64 ((k : Nat) : Int)), (15, .bool false), (19, .bool true), (28, .bool false), (30, .bool true)] (fun U35 => ?_)
            refine h16 _ _ ?_
            refine wp_seq_k (fun K18 h18 => ?_)
            refine W.region_quiet [(0, false), (1, false), (2, false), (3, false), (4, false), (5, false), (6, false)] (by kernel_rfl) ?_
            refine W.mv (v := .string (out ++ sep)) (h := ?_)
            refine W.mv (v := .slice A n c) (h := ?_)
            refine W.mv (v := .int .i64 ((k : Nat) : Int)) (h := ?_)
            refine W.q (v := .pointer (some ⟨b19, o20 + k, none⟩)) (hr := (r_idx1 (n := n) (c := c) (k := k) rfl (by kernel_rfl) hA21 (by kernel_rfl) (by kernel_rfl) (by have := hl; omega))) (h := ?_)
            refine W.ld (v := .string x17) (hc := (eqS (later c32 hc23))) (h := ?_)
            refine W.q (v := .string ((out ++ sep) ++ x17)) (hr := (r_addS (s := (out ++ sep)) (r := x17) rfl (by kernel_rfl) (by kernel_rfl) (by have ge9 := hx _ (List.mem_of_getElem? hx18); (try rw [ByteArray.size_append]); omega))) (h := ?_)
            refine W.as (v := .string ((out ++ sep) ++ x17)) (h := ?_)
            refine W.endF 44 [(0, .slice A n c), (1, .string sep), (4, .string (⟨#[]⟩ : ByteArray)), (5, .bool false), (6, .string ((out ++ sep) ++ x17)), (7, .int .i64 ((k : Nat) : Int)), (15, .bool false), (19, .bool true), (28, .bool false), (30, .bool true)] (fun U36 => ?_)
            refine h18 _ _ ?_
            refine wp_seq_k (fun K19 h19 => ?_)
            refine W.region_quiet [(0, false), (1, false), (2, false)] (by kernel_rfl) ?_
            refine W.mv (v := .string ((out ++ sep) ++ x17)) (h := ?_)
            refine W.q (v := .int .i64 ((((out ++ sep) ++ x17).size : Nat) : Int)) (hr := (r_lenS (s := ((out ++ sep) ++ x17)) rfl (by kernel_rfl) (by kernel_rfl))) (h := ?_)
            by_cases q37 : (((((out ++ sep) ++ x17).size : Nat) : Int) : Int) > (4000 : Int)
            · refine W.q (v := .bool true) (hr := (r_gtr (m := ((((out ++ sep) ++ x17).size : Nat) : Int)) (n := 4000) rfl (by kernel_rfl) (by kernel_rfl) (decide_eq_true q37))) (h := ?_)
              refine W.endF 44 [(0, .slice A n c), (1, .string sep), (4, .string (⟨#[]⟩ : ByteArray)), (5, .bool false), (6, .string ((out ++ sep) ++ x17)), (7, .int .i64 ((k : Nat) : Int)), (15, .bool false), (19, .bool true), (28, .bool false), (30, .bool true), (42, .bool true)] (fun U38 => ?_)
              refine h19 _ _ ?_
              refine wp_cond_true (by kernel_rfl) ?_
              refine wp_seq_k (fun K20 h20 => ?_)
              refine W.region_quiet [(0, false), (1, false)] (by kernel_rfl) ?_
              refine W.as (v := .string (⟨#[]⟩ : ByteArray)) (h := ?_)
              refine W.as (v := .bool false) (h := ?_)
              refine W.endF 44 [(0, .slice A n c), (1, .string sep), (4, .string (⟨#[]⟩ : ByteArray)), (5, .bool false), (6, .string ((out ++ sep) ++ x17)), (7, .int .i64 ((k : Nat) : Int)), (15, .bool false), (19, .bool true), (28, .bool false), (30, .bool true), (42, .bool true)] (fun U39 => ?_)
              refine h20 _ _ ?_
              refine wp_ret ?_
              try simp only [Exit.then, Exit.inBlock]
              refine ret2 (v := .string (⟨#[]⟩ : ByteArray)) (x := .bool false) rfl (by kernel_rfl) (by kernel_rfl) ?_
              have ge8 := lenSum_take hx18
              have ge9 := lenSum_take_le zs (k + 1)
              have ge6 := hosz
              have ge7 : (((out ++ sep) ++ x17)).size = lenSum (zs.take (k + 1)) + k := by (try simp only [ByteArray.size_append]); rcases Nat.eq_zero_or_pos k with ge5 | ge5 <;> omega
              have e7 : JoinStrings_v1 zs sep = false := join_no3 (by omega)
              exact ⟨by unfold JoinStrings_v0; rw [if_neg (by rw [e7]; simp), e7], c32⟩
            · refine W.q (v := .bool false) (hr := (r_gtr (m := ((((out ++ sep) ++ x17).size : Nat) : Int)) (n := 4000) rfl (by kernel_rfl) (by kernel_rfl) (decide_eq_false q37))) (h := ?_)
              refine W.endF 44 [(0, .slice A n c), (1, .string sep), (4, .string (⟨#[]⟩ : ByteArray)), (5, .bool false), (6, .string ((out ++ sep) ++ x17)), (7, .int .i64 ((k : Nat) : Int)), (15, .bool false), (19, .bool true), (28, .bool false), (30, .bool true), (42, .bool false)] (fun U40 => ?_)
              refine h19 _ _ ?_
              refine wp_cond_false (by kernel_rfl) ?_
              refine wp_skip ?_
              refine h12 _ _ ?_
              refine W.region_quiet [(0, false), (1, false), (2, false)] (by kernel_rfl) ?_
              refine W.mv (v := .int .i64 ((k : Nat) : Int)) (h := ?_)
              refine W.q (v := .int .i64 ((k + 1 : Nat) : Int)) (hr := (r_add (m := ((k : Nat) : Int)) (n := 1) (z := ((k + 1 : Nat) : Int)) rfl (by kernel_rfl) (by kernel_rfl) (by omega) (by omega))) (h := ?_)
              refine W.as (v := .int .i64 ((k + 1 : Nat) : Int)) (h := ?_)
              refine W.endF 44 [(0, .slice A n c), (1, .string sep), (4, .string (⟨#[]⟩ : ByteArray)), (5, .bool false), (6, .string ((out ++ sep) ++ x17)), (7, .int .i64 ((k + 1 : Nat) : Int)), (15, .bool false), (19, .bool true), (28, .bool false), (30, .bool true), (42, .bool false)] (fun U41 => ?_)
              have ge8 := lenSum_take hx18
              have hle : (((out ++ sep) ++ x17)).size ≤ 4000 := by omega
              exact h9 _ _ _ (by omega : (n - (k + 1)) < _) ⟨k + 1, ((out ++ sep) ++ x17), (fun iU9 => lk [(0, .slice A n c), (1, .string sep), (4, .string (⟨#[]⟩ : ByteArray)), (5, .bool false), (6, .string ((out ++ sep) ++ x17)), (7, .int .i64 ((k + 1 : Nat) : Int)), (15, .bool false), (19, .bool true), (28, .bool false), (30, .bool true), (42, .bool false)] iU9 (U41 iU9)), (by kernel_rfl), rfl, (by omega), (by rw [joinB_take hx18, hout]; rw [if_neg (by omega)]), (by (try simp only [ByteArray.size_append]); rw [ge8]; (try simp only [ByteArray.size_append] at hle); omega), (all_take hall hx18 q27), (by have := hosz; (try simp only [ByteArray.size_append] at *); omega), c32⟩
          · refine W.q (v := .bool false) (hr := (r_gtr (m := ((k : Nat) : Int)) (n := 0) rfl (by kernel_rfl) (by kernel_rfl) (decide_eq_false q33))) (h := ?_)
            refine W.endF 44 [(0, .slice A n c), (1, .string sep), (4, .string (⟨#[]⟩ : ByteArray)), (5, .bool false), (6, .string out), (7, .int .i64 ((k : Nat) : Int)), (15, .bool false), (19, .bool true), (28, .bool false), (30, .bool false)] (fun U42 => ?_)
            refine h17 _ _ ?_
            refine wp_cond_false (by kernel_rfl) ?_
            refine wp_skip ?_
            refine h16 _ _ ?_
            refine wp_seq_k (fun K21 h21 => ?_)
            refine W.region_quiet [(0, false), (1, false), (2, false), (3, false), (4, false), (5, false), (6, false)] (by kernel_rfl) ?_
            refine W.mv (v := .string out) (h := ?_)
            refine W.mv (v := .slice A n c) (h := ?_)
            refine W.mv (v := .int .i64 ((k : Nat) : Int)) (h := ?_)
            refine W.q (v := .pointer (some ⟨b19, o20 + k, none⟩)) (hr := (r_idx1 (n := n) (c := c) (k := k) rfl (by kernel_rfl) hA21 (by kernel_rfl) (by kernel_rfl) (by have := hl; omega))) (h := ?_)
            refine W.ld (v := .string x17) (hc := (eqS (later c32 hc23))) (h := ?_)
            refine W.q (v := .string (out ++ x17)) (hr := (r_addS (s := out) (r := x17) rfl (by kernel_rfl) (by kernel_rfl) (by have ge9 := hx _ (List.mem_of_getElem? hx18); (try rw [ByteArray.size_append]); omega))) (h := ?_)
            refine W.as (v := .string (out ++ x17)) (h := ?_)
            refine W.endF 44 [(0, .slice A n c), (1, .string sep), (4, .string (⟨#[]⟩ : ByteArray)), (5, .bool false), (6, .string (out ++ x17)), (7, .int .i64 ((k : Nat) : Int)), (15, .bool false), (19, .bool true), (28, .bool false), (30, .bool false)] (fun U43 => ?_)
            refine h21 _ _ ?_
            refine wp_seq_k (fun K22 h22 => ?_)
            refine W.region_quiet [(0, false), (1, false), (2, false)] (by kernel_rfl) ?_
            refine W.mv (v := .string (out ++ x17)) (h := ?_)
            refine W.q (v := .int .i64 (((out ++ x17).size : Nat) : Int)) (hr := (r_lenS (s := (out ++ x17)) rfl (by kernel_rfl) (by kernel_rfl))) (h := ?_)
            by_cases q44 : ((((out ++ x17).size : Nat) : Int) : Int) > (4000 : Int)
            · refine W.q (v := .bool true) (hr := (r_gtr (m := (((out ++ x17).size : Nat) : Int)) (n := 4000) rfl (by kernel_rfl) (by kernel_rfl) (decide_eq_true q44))) (h := ?_)
              refine W.endF 44 [(0, .slice A n c), (1, .string sep), (4, .string (⟨#[]⟩ : ByteArray)), (5, .bool false), (6, .string (out ++ x17)), (7, .int .i64 ((k : Nat) : Int)), (15, .bool false), (19, .bool true), (28, .bool false), (30, .bool false), (42, .bool true)] (fun U45 => ?_)
              refine h22 _ _ ?_
              refine wp_cond_true (by kernel_rfl) ?_
              refine wp_seq_k (fun K23 h23 => ?_)
              refine W.region_quiet [(0, false), (1, false)] (by kernel_rfl) ?_
              refine W.as (v := .string (⟨#[]⟩ : ByteArray)) (h := ?_)
              refine W.as (v := .bool false) (h := ?_)
              refine W.endF 44 [(0, .slice A n c), (1, .string sep), (4, .string (⟨#[]⟩ : ByteArray)), (5, .bool false), (6, .string (out ++ x17)), (7, .int .i64 ((k : Nat) : Int)), (15, .bool false), (19, .bool true), (28, .bool false), (30, .bool false), (42, .bool true)] (fun U46 => ?_)
              refine h23 _ _ ?_
              refine wp_ret ?_
              try simp only [Exit.then, Exit.inBlock]
              refine ret2 (v := .string (⟨#[]⟩ : ByteArray)) (x := .bool false) rfl (by kernel_rfl) (by kernel_rfl) ?_
              have ge8 := lenSum_take hx18
              have ge9 := lenSum_take_le zs (k + 1)
              have ge6 := hosz
              have ge7 : ((out ++ x17)).size = lenSum (zs.take (k + 1)) + k := by (try simp only [ByteArray.size_append]); rcases Nat.eq_zero_or_pos k with ge5 | ge5 <;> omega
              have e7 : JoinStrings_v1 zs sep = false := join_no3 (by omega)
              exact ⟨by unfold JoinStrings_v0; rw [if_neg (by rw [e7]; simp), e7], c32⟩
            · refine W.q (v := .bool false) (hr := (r_gtr (m := (((out ++ x17).size : Nat) : Int)) (n := 4000) rfl (by kernel_rfl) (by kernel_rfl) (decide_eq_false q44))) (h := ?_)
              refine W.endF 44 [(0, .slice A n c), (1, .string sep), (4, .string (⟨#[]⟩ : ByteArray)), (5, .bool false), (6, .string (out ++ x17)), (7, .int .i64 ((k : Nat) : Int)), (15, .bool false), (19, .bool true), (28, .bool false), (30, .bool false), (42, .bool false)] (fun U47 => ?_)
              refine h22 _ _ ?_
              refine wp_cond_false (by kernel_rfl) ?_
              refine wp_skip ?_
              refine h12 _ _ ?_
              refine W.region_quiet [(0, false), (1, false), (2, false)] (by kernel_rfl) ?_
              refine W.mv (v := .int .i64 ((k : Nat) : Int)) (h := ?_)
              refine W.q (v := .int .i64 ((k + 1 : Nat) : Int)) (hr := (r_add (m := ((k : Nat) : Int)) (n := 1) (z := ((k + 1 : Nat) : Int)) rfl (by kernel_rfl) (by kernel_rfl) (by omega) (by omega))) (h := ?_)
              refine W.as (v := .int .i64 ((k + 1 : Nat) : Int)) (h := ?_)
              refine W.endF 44 [(0, .slice A n c), (1, .string sep), (4, .string (⟨#[]⟩ : ByteArray)), (5, .bool false), (6, .string (out ++ x17)), (7, .int .i64 ((k + 1 : Nat) : Int)), (15, .bool false), (19, .bool true), (28, .bool false), (30, .bool false), (42, .bool false)] (fun U48 => ?_)
              have ge8 := lenSum_take hx18
              have hle : ((out ++ x17)).size ≤ 4000 := by omega
              exact h9 _ _ _ (by omega : (n - (k + 1)) < _) ⟨k + 1, (out ++ x17), (fun iU9 => lk [(0, .slice A n c), (1, .string sep), (4, .string (⟨#[]⟩ : ByteArray)), (5, .bool false), (6, .string (out ++ x17)), (7, .int .i64 ((k + 1 : Nat) : Int)), (15, .bool false), (19, .bool true), (28, .bool false), (30, .bool false), (42, .bool false)] iU9 (U48 iU9)), (by kernel_rfl), rfl, (by omega), (by rw [joinB_take hx18, hout]; rw [if_pos (by omega), show k = 0 by omega]; exact empty_app _), (by (try simp only [ByteArray.size_append]); rw [ge8]; (try simp only [ByteArray.size_append] at hle); omega), (all_take hall hx18 q27), (by have := hosz; (try simp only [ByteArray.size_append] at *); omega), c32⟩
      · refine W.q (v := .bool false) (hr := (r_lss (m := ((k : Nat) : Int)) (n := ((n : Nat) : Int)) rfl (by kernel_rfl) (by kernel_rfl) (decide_eq_false q12))) (h := ?_)
        refine W.endF 44 [(0, .slice A n c), (1, .string sep), (4, .string (⟨#[]⟩ : ByteArray)), (5, .bool false), (6, .string out), (7, .int .i64 ((k : Nat) : Int)), (15, .bool false), (19, .bool false)] (fun U49 => ?_)
        refine h11 _ _ ?_
        refine wp_cond_false (by kernel_rfl) ?_
        refine wp_exit ?_
        refine h7 _ _ ?_
        refine wp_seq_k (fun K24 h24 => ?_)
        refine W.region_quiet [(0, false), (1, false), (2, false)] (by kernel_rfl) ?_
        refine W.mv (v := .string out) (h := ?_)
        refine W.as (v := .string out) (h := ?_)
        refine W.as (v := .bool true) (h := ?_)
        refine W.endF 44 [(0, .slice A n c), (1, .string sep), (4, .string out), (5, .bool true), (6, .string out), (7, .int .i64 ((k : Nat) : Int)), (15, .bool false), (19, .bool false)] (fun U50 => ?_)
        refine h24 _ _ ?_
        refine wp_ret ?_
        try simp only [Exit.then]
        refine ret2 (v := .string out) (x := .bool true) rfl (by kernel_rfl) (by kernel_rfl) ?_
        have e6 : k = zs.length := by omega
        rw [e6, List.take_length] at hall hosz hout
        have e7 : JoinStrings_v1 zs sep = true := join_yes (by omega) (by omega) hall (by omega)
        exact ⟨by unfold JoinStrings_v0; rw [if_pos e7, e7, hout], c11⟩

set_option maxRecDepth 100000 in
set_option maxHeartbeats 1000000 in
theorem JoinStrings_impl (A : Option Addr) (n c : Nat) (zs : List ByteArray) (sep : ByteArray) (w : World) (ha : Rd w 1 A n (strsV zs)) (hf : Fm A n c) (hn : n ≤ 1048576) (hx : ∀ x ∈ zs, x.size ≤ 1048576) (_h1 : sep.size ≤ 1048576) :
    Calls Try.prog 21 #[.slice A n c, .string sep] w fun e w' => e = .returned (.tuple #[.string (JoinStrings_v0 zs sep), .bool (JoinStrings_v1 zs sep)]) ∧ Below w.heap.size w w' := by
  have hl := rd_strs_len ha
  go_enter Try.func21, Try.ntmps21
  refine wp_seq_k (fun K1 h1 => ?_)
  refine W.region_quiet [(0, false), (1, false)] (by kernel_rfl) ?_
  refine W.as (v := .string (⟨#[]⟩ : ByteArray)) (h := ?_)
  refine W.as (v := .bool false) (h := ?_)
  refine W.endF 43 [(0, .slice A n c), (1, .string sep), (4, .string (⟨#[]⟩ : ByteArray)), (5, .bool false)] (fun U1 => ?_)
  refine h1 _ _ ?_
  refine wp_seq_k (fun K2 h2 => ?_)
  refine wp_seq_k (fun K3 h3 => ?_)
  refine W.region_quiet [(0, false), (1, false), (2, false), (3, false), (4, false), (5, false), (6, false), (7, false)] (by kernel_rfl) ?_
  refine W.mv (v := .slice A n c) (h := ?_)
  refine W.q (v := .int .i64 ((n : Nat) : Int)) (hr := (r_len (A := A) (n := n) (c := c) rfl (by kernel_rfl) (by kernel_rfl))) (h := ?_)
  by_cases q2 : (((n : Nat) : Int) : Int) = (0 : Int)
  · refine W.q (v := .bool true) (hr := (r_eql (m := ((n : Nat) : Int)) (n := 0) rfl (by kernel_rfl) (by kernel_rfl) (decide_eq_true q2))) (h := ?_)
    refine W.mv (v := .bool true) (h := ?_)
    refine W.sp rfl (h := ?_)
    refine W.sp rfl (h := ?_)
    refine W.sp rfl (h := ?_)
    refine W.q (v := .bool true) (hr := (r_pick (b := true) rfl (by kernel_rfl) (by kernel_rfl))) (h := ?_)
    refine W.endF 43 [(0, .slice A n c), (1, .string sep), (4, .string (⟨#[]⟩ : ByteArray)), (5, .bool false), (16, .bool true)] (fun U3 => ?_)
    refine h3 _ _ ?_
    refine wp_cond_true (by kernel_rfl) ?_
    refine wp_seq_k (fun K4 h4 => ?_)
    refine W.region_quiet [(0, false), (1, false)] (by kernel_rfl) ?_
    refine W.as (v := .string (⟨#[]⟩ : ByteArray)) (h := ?_)
    refine W.as (v := .bool false) (h := ?_)
    refine W.endF 43 [(0, .slice A n c), (1, .string sep), (4, .string (⟨#[]⟩ : ByteArray)), (5, .bool false), (16, .bool true)] (fun U4 => ?_)
    refine h4 _ _ ?_
    refine wp_ret ?_
    try simp only [Exit.then]
    refine ret2 (v := .string (⟨#[]⟩ : ByteArray)) (x := .bool false) rfl (by kernel_rfl) (by kernel_rfl) ?_
    have e7 : JoinStrings_v1 zs sep = false := join_no1 (by omega)
    exact ⟨by unfold JoinStrings_v0; rw [if_neg (by rw [e7]; simp), e7], (Below.refl _ _)⟩
  · refine W.q (v := .bool false) (hr := (r_eql (m := ((n : Nat) : Int)) (n := 0) rfl (by kernel_rfl) (by kernel_rfl) (decide_eq_false q2))) (h := ?_)
    refine W.mv (v := .bool false) (h := ?_)
    refine W.mv (v := .string sep) (h := ?_)
    refine W.q (v := .int .i64 ((sep.size : Nat) : Int)) (hr := (r_lenS (s := sep) rfl (by kernel_rfl) (by kernel_rfl))) (h := ?_)
    by_cases q5 : (((sep.size : Nat) : Int) : Int) ≠ (1 : Int)
    · refine W.q (v := .bool true) (hr := (r_neq (m := ((sep.size : Nat) : Int)) (n := 1) rfl (by kernel_rfl) (by kernel_rfl) (decide_eq_true q5))) (h := ?_)
      refine W.q (v := .bool true) (hr := (r_pick (b := false) rfl (by kernel_rfl) (by kernel_rfl))) (h := ?_)
      refine W.endF 43 [(0, .slice A n c), (1, .string sep), (4, .string (⟨#[]⟩ : ByteArray)), (5, .bool false), (16, .bool true)] (fun U6 => ?_)
      refine h3 _ _ ?_
      refine wp_cond_true (by kernel_rfl) ?_
      refine wp_seq_k (fun K5 h5 => ?_)
      refine W.region_quiet [(0, false), (1, false)] (by kernel_rfl) ?_
      refine W.as (v := .string (⟨#[]⟩ : ByteArray)) (h := ?_)
      refine W.as (v := .bool false) (h := ?_)
      refine W.endF 43 [(0, .slice A n c), (1, .string sep), (4, .string (⟨#[]⟩ : ByteArray)), (5, .bool false), (16, .bool true)] (fun U7 => ?_)
      refine h5 _ _ ?_
      refine wp_ret ?_
      try simp only [Exit.then]
      refine ret2 (v := .string (⟨#[]⟩ : ByteArray)) (x := .bool false) rfl (by kernel_rfl) (by kernel_rfl) ?_
      have e7 : JoinStrings_v1 zs sep = false := join_no1 (by omega)
      exact ⟨by unfold JoinStrings_v0; rw [if_neg (by rw [e7]; simp), e7], (Below.refl _ _)⟩
    · refine W.q (v := .bool false) (hr := (r_neq (m := ((sep.size : Nat) : Int)) (n := 1) rfl (by kernel_rfl) (by kernel_rfl) (decide_eq_false q5))) (h := ?_)
      refine W.q (v := .bool false) (hr := (r_pick (b := false) rfl (by kernel_rfl) (by kernel_rfl))) (h := ?_)
      refine W.endF 43 [(0, .slice A n c), (1, .string sep), (4, .string (⟨#[]⟩ : ByteArray)), (5, .bool false), (16, .bool false)] (fun U8 => ?_)
      refine h3 _ _ ?_
      refine wp_cond_false (by kernel_rfl) ?_
      refine wp_skip ?_
      refine h2 _ _ ?_
      refine wp_seq_k (fun K6 h6 => ?_)
      refine W.region_quiet [(0, false), (1, false), (2, false), (3, false)] (by kernel_rfl) ?_
      refine W.mv (v := .slice A n c) (h := ?_)
      refine W.q (v := .int .i64 ((n : Nat) : Int)) (hr := (r_len (A := A) (n := n) (c := c) rfl (by kernel_rfl) (by kernel_rfl))) (h := ?_)
      refine W.q (v := .int .i64 (((n : Nat) : Int) - 1)) (hr := (r_sub (m := ((n : Nat) : Int)) (n := 1) (z := ((n : Nat) : Int) - 1) rfl (by kernel_rfl) (by kernel_rfl) (rfl) (by omega))) (h := ?_)
      refine W.as (v := .int .i64 (((n : Nat) : Int) - 1)) (h := ?_)
      refine W.endF 43 [(0, .slice A n c), (1, .string sep), (4, .string (⟨#[]⟩ : ByteArray)), (5, .bool false), (6, .int .i64 (((n : Nat) : Int) - 1)), (16, .bool false)] (fun U9 => ?_)
      refine h6 _ _ ?_
      refine wp_seq_k (fun K7 h7 => ?_)
      refine wp_seq_k (fun K8 h8 => ?_)
      refine W.region_quiet [(0, false), (1, false), (2, false)] (by kernel_rfl) ?_
      refine W.mv (v := .slice A n c) (h := ?_)
      refine W.q (v := .int .i64 ((n : Nat) : Int)) (hr := (r_len (A := A) (n := n) (c := c) rfl (by kernel_rfl) (by kernel_rfl))) (h := ?_)
      refine W.mv (v := .int .i64 0) (h := ?_)
      refine W.endF 43 [(0, .slice A n c), (1, .string sep), (4, .string (⟨#[]⟩ : ByteArray)), (5, .bool false), (6, .int .i64 (((n : Nat) : Int) - 1)), (16, .bool false), (20, .slice A n c), (21, .int .i64 ((n : Nat) : Int)), (22, .int .i64 0)] (fun U10 => ?_)
      refine h8 _ _ ?_
      refine wp_block ?_
      refine loopK (fun am0 aa0 wl0 => ∃ (k : Nat) (z : Int) (U0 : Nat → Value), aa0 = ⟨(fr U0 [(0, .slice A n c), (1, .string sep), (4, .string (⟨#[]⟩ : ByteArray)), (5, .bool false), (6, .int .i64 z), (16, .bool false), (20, .slice A n c), (21, .int .i64 ((n : Nat) : Int)), (22, .int .i64 ((k : Nat) : Int))] 43 0).toArray, []⟩ ∧ (am0 = n - k) ∧ (k ≤ n) ∧ (z = lenSum (zs.take k) + ((zs.length : Int) - 1)) ∧ (z ≤ 1048575 ∧ (0 < k → z ≤ 4000)) ∧ (∀ x, x ∈ zs.take k → standsB x (bAt sep 0) = false) ∧ (Below w.heap.size w wl0)) (n - 0) ?_ ?_
      · exact ⟨0, (n : Int) - 1, (fun iU9 => lk [(0, .slice A n c), (1, .string sep), (4, .string (⟨#[]⟩ : ByteArray)), (5, .bool false), (6, .int .i64 (((n : Nat) : Int) - 1)), (16, .bool false), (20, .slice A n c), (21, .int .i64 ((n : Nat) : Int)), (22, .int .i64 0)] iU9 (U10 iU9)), (by kernel_rfl), rfl, (Nat.zero_le _), (by simp [lenSum]; omega), (by omega), (fun x h => by simp at h), (Below.refl _ _)⟩
      rintro am0 aa0 wl0 K9 h9 ⟨k, z, U0, rfl, rfl, hk, hsz, hzb, hall, c11⟩
      refine wp_seq_k (fun K10 h10 => ?_)
      refine W.region_quiet [(0, false)] (by kernel_rfl) ?_
      by_cases q12 : (((k : Nat) : Int) : Int) < (((n : Nat) : Int) : Int)
      · refine W.q (v := .bool true) (hr := (r_lss (m := ((k : Nat) : Int)) (n := ((n : Nat) : Int)) rfl (by kernel_rfl) (by kernel_rfl) (decide_eq_true q12))) (h := ?_)
        refine W.endF 43 [(0, .slice A n c), (1, .string sep), (4, .string (⟨#[]⟩ : ByteArray)), (5, .bool false), (6, .int .i64 z), (16, .bool false), (20, .slice A n c), (21, .int .i64 ((n : Nat) : Int)), (22, .int .i64 ((k : Nat) : Int)), (23, .bool true)] (fun U13 => ?_)
        refine h10 _ _ ?_
        refine wp_seq_k (fun K11 h11 => ?_)
        refine wp_cond_true (by kernel_rfl) ?_
        refine wp_skip ?_
        refine h11 _ _ ?_
        refine wp_seq_k (fun K12 h12 => ?_)
        refine wp_block ?_
        refine wp_seq_k (fun K13 h13 => ?_)
        refine W.region_quiet [(0, false), (1, false), (2, false)] (by kernel_rfl) ?_
        obtain ⟨x14, hx15⟩ := get_of (zs := zs) (k := k) (by have := hl; omega)
        obtain ⟨b16, o17, hA18, hb19, hc20⟩ := Rd.elStr ha hx15
        refine W.q (v := .pointer (some ⟨b16, o17 + k, none⟩)) (hr := (r_idx1 (n := n) (c := c) (k := k) rfl (by kernel_rfl) hA18 (by kernel_rfl) (by kernel_rfl) (by have := hl; omega))) (h := ?_)
        refine W.ld (v := .string x14) (hc := (eqS (later c11 hc20))) (h := ?_)
        refine W.as (v := .string x14) (h := ?_)
        refine W.endF 43 [(0, .slice A n c), (1, .string sep), (4, .string (⟨#[]⟩ : ByteArray)), (5, .bool false), (6, .int .i64 z), (8, .string x14), (16, .bool false), (20, .slice A n c), (21, .int .i64 ((n : Nat) : Int)), (22, .int .i64 ((k : Nat) : Int)), (23, .bool true)] (fun U21 => ?_)
        refine h13 _ _ ?_
        refine wp_seq_k (fun K14 h14 => ?_)
        refine W.region_quiet [(0, false), (1, false), (2, false), (3, false), (4, false)] (by kernel_rfl) ?_
        refine W.mv (v := .int .i64 z) (h := ?_)
        refine W.mv (v := .string x14) (h := ?_)
        refine W.q (v := .int .i64 ((x14.size : Nat) : Int)) (hr := (r_lenS (s := x14) rfl (by kernel_rfl) (by kernel_rfl))) (h := ?_)
        have hxs := hx _ (List.mem_of_getElem? hx15)
        refine W.q (v := .int .i64 (z + ((x14.size : Nat) : Int))) (hr := (r_add (m := z) (n := ((x14.size : Nat) : Int)) (z := (z + ((x14.size : Nat) : Int))) rfl (by kernel_rfl) (by kernel_rfl) (rfl) (by omega))) (h := ?_)
        refine W.as (v := .int .i64 (z + ((x14.size : Nat) : Int))) (h := ?_)
        refine W.endF 43 [(0, .slice A n c), (1, .string sep), (4, .string (⟨#[]⟩ : ByteArray)), (5, .bool false), (6, .int .i64 (z + ((x14.size : Nat) : Int))), (8, .string x14), (16, .bool false), (20, .slice A n c), (21, .int .i64 ((n : Nat) : Int)), (22, .int .i64 ((k : Nat) : Int)), (23, .bool true)] (fun U22 => ?_)
        refine h14 _ _ ?_
        refine wp_seq_k (fun K15 h15 => ?_)
        refine W.region_plain (row := none) [(0, false), (1, false), (2, false), (3, false), (4, false), (5, false), (6, true), (7, false), (8, false)] (by kernel_rfl) ?_
        have s23 := SG.self wl0 none
        refine W.mv (v := .int .i64 (z + ((x14.size : Nat) : Int))) (h := ?_)
        by_cases q24 : ((z + ((x14.size : Nat) : Int)) : Int) > (4000 : Int)
        · refine W.q (v := .bool true) (hr := (r_gtr (m := (z + ((x14.size : Nat) : Int))) (n := 4000) rfl (by kernel_rfl) (by kernel_rfl) (decide_eq_true q24))) (h := ?_)
          refine W.mv (v := .bool true) (h := ?_)
          refine W.sp s23 (h := ?_)
          refine W.sp s23 (h := ?_)
          refine W.sp s23 (h := ?_)
          refine W.sp s23 (h := ?_)
          refine W.sp s23 (h := ?_)
          refine W.q (v := .bool true) (hr := (r_pick (b := true) rfl (by kernel_rfl) (by kernel_rfl))) (h := ?_)
          refine W.endF 43 [(0, .slice A n c), (1, .string sep), (4, .string (⟨#[]⟩ : ByteArray)), (5, .bool false), (6, .int .i64 (z + ((x14.size : Nat) : Int))), (8, .string x14), (16, .bool false), (20, .slice A n c), (21, .int .i64 ((n : Nat) : Int)), (22, .int .i64 ((k : Nat) : Int)), (23, .bool true), (38, .bool true)] (fun U25 => ?_)
          have c26 := (SG.belowR c11 s23 (fun kq e => by cases e))
          refine h15 _ _ ?_
          refine wp_cond_true (by kernel_rfl) ?_
          refine wp_seq_k (fun K16 h16 => ?_)
          refine W.region_quiet [(0, false), (1, false)] (by kernel_rfl) ?_
          refine W.as (v := .string (⟨#[]⟩ : ByteArray)) (h := ?_)
          refine W.as (v := .bool false) (h := ?_)
          refine W.endF 43 [(0, .slice A n c), (1, .string sep), (4, .string (⟨#[]⟩ : ByteArray)), (5, .bool false), (6, .int .i64 (z + ((x14.size : Nat) : Int))), (8, .string x14), (16, .bool false), (20, .slice A n c), (21, .int .i64 ((n : Nat) : Int)), (22, .int .i64 ((k : Nat) : Int)), (23, .bool true), (38, .bool true)] (fun U27 => ?_)
          refine h16 _ _ ?_
          refine wp_ret ?_
          try simp only [Exit.then, Exit.inBlock]
          refine ret2 (v := .string (⟨#[]⟩ : ByteArray)) (x := .bool false) rfl (by kernel_rfl) (by kernel_rfl) ?_
          have ge8 := lenSum_take hx15
          have ge9 := lenSum_take_le zs (k + 1)
          have e7 : JoinStrings_v1 zs sep = false := join_no3 (by omega)
          exact ⟨by unfold JoinStrings_v0; rw [if_neg (by rw [e7]; simp), e7], c26⟩
        · refine W.q (v := .bool false) (hr := (r_gtr (m := (z + ((x14.size : Nat) : Int))) (n := 4000) rfl (by kernel_rfl) (by kernel_rfl) (decide_eq_false q24))) (h := ?_)
          refine W.mv (v := .bool false) (h := ?_)
          refine W.mv (v := .string x14) (h := ?_)
          refine W.mv (v := .string sep) (h := ?_)
          refine W.q (v := .int .u8 ((bAt sep 0 : Nat) : Int)) (hr := (r_indexS (s := sep) (k := 0) rfl (by kernel_rfl) (by kernel_rfl) (by kernel_rfl) (by omega))) (h := ?_)
          refine W.sc (vs := [.string x14, .int .u8 ((bAt sep 0 : Nat) : Int)]) rfl rfl (by kernel_rfl) (by kernel_rfl) (by kernel_rfl) rfl (index_lib x14 (bAt sep 0) (bAt_lt _ _) _) ?_
          rintro e w29 ⟨rfl, b28⟩
          have s30 := SG.of_below s23 b28
          refine ⟨_, rfl, s30, ?_⟩
          by_cases q31 : ((idxB x14 (bAt sep 0)) : Int) ≥ (0 : Int)
          · refine W.q (v := .bool true) (hr := (r_geq (m := (idxB x14 (bAt sep 0))) (n := 0) rfl (by kernel_rfl) (by kernel_rfl) (decide_eq_true q31))) (h := ?_)
            refine W.q (v := .bool true) (hr := (r_pick (b := false) rfl (by kernel_rfl) (by kernel_rfl))) (h := ?_)
            refine W.endF 43 [(0, .slice A n c), (1, .string sep), (4, .string (⟨#[]⟩ : ByteArray)), (5, .bool false), (6, .int .i64 (z + ((x14.size : Nat) : Int))), (8, .string x14), (16, .bool false), (20, .slice A n c), (21, .int .i64 ((n : Nat) : Int)), (22, .int .i64 ((k : Nat) : Int)), (23, .bool true), (38, .bool true)] (fun U32 => ?_)
            have c33 := (SG.belowR c11 s30 (fun kq e => by cases e))
            refine h15 _ _ ?_
            refine wp_cond_true (by kernel_rfl) ?_
            refine wp_seq_k (fun K17 h17 => ?_)
            refine W.region_quiet [(0, false), (1, false)] (by kernel_rfl) ?_
            refine W.as (v := .string (⟨#[]⟩ : ByteArray)) (h := ?_)
            refine W.as (v := .bool false) (h := ?_)
            refine W.endF 43 [(0, .slice A n c), (1, .string sep), (4, .string (⟨#[]⟩ : ByteArray)), (5, .bool false), (6, .int .i64 (z + ((x14.size : Nat) : Int))), (8, .string x14), (16, .bool false), (20, .slice A n c), (21, .int .i64 ((n : Nat) : Int)), (22, .int .i64 ((k : Nat) : Int)), (23, .bool true), (38, .bool true)] (fun U34 => ?_)
            refine h17 _ _ ?_
            refine wp_ret ?_
            try simp only [Exit.then, Exit.inBlock]
            refine ret2 (v := .string (⟨#[]⟩ : ByteArray)) (x := .bool false) rfl (by kernel_rfl) (by kernel_rfl) ?_
            have e7 : JoinStrings_v1 zs sep = false := join_no2 hx15 (idxB_stands (bAt_lt _ _) q31)
            exact ⟨by unfold JoinStrings_v0; rw [if_neg (by rw [e7]; simp), e7], c33⟩
          · refine W.q (v := .bool false) (hr := (r_geq (m := (idxB x14 (bAt sep 0))) (n := 0) rfl (by kernel_rfl) (by kernel_rfl) (decide_eq_false q31))) (h := ?_)
            refine W.q (v := .bool false) (hr := (r_pick (b := false) rfl (by kernel_rfl) (by kernel_rfl))) (h := ?_)
            refine W.endF 43 [(0, .slice A n c), (1, .string sep), (4, .string (⟨#[]⟩ : ByteArray)), (5, .bool false), (6, .int .i64 (z + ((x14.size : Nat) : Int))), (8, .string x14), (16, .bool false), (20, .slice A n c), (21, .int .i64 ((n : Nat) : Int)), (22, .int .i64 ((k : Nat) : Int)), (23, .bool true), (38, .bool false)] (fun U35 => ?_)
            have c36 := (SG.belowR c11 s30 (fun kq e => by cases e))
            refine h15 _ _ ?_
            refine wp_cond_false (by kernel_rfl) ?_
            refine wp_skip ?_
            refine h12 _ _ ?_
            refine W.region_quiet [(0, false), (1, false)] (by kernel_rfl) ?_
            refine W.q (v := .int .i64 ((k + 1 : Nat) : Int)) (hr := (r_add (m := ((k : Nat) : Int)) (n := 1) (z := ((k + 1 : Nat) : Int)) rfl (by kernel_rfl) (by kernel_rfl) (by omega) (by omega))) (h := ?_)
            refine W.mv (v := .int .i64 ((k + 1 : Nat) : Int)) (h := ?_)
            refine W.endF 43 [(0, .slice A n c), (1, .string sep), (4, .string (⟨#[]⟩ : ByteArray)), (5, .bool false), (6, .int .i64 (z + ((x14.size : Nat) : Int))), (8, .string x14), (16, .bool false), (20, .slice A n c), (21, .int .i64 ((n : Nat) : Int)), (22, .int .i64 ((k + 1 : Nat) : Int)), (23, .bool true), (38, .bool false)] (fun U37 => ?_)
            have ge8 := lenSum_take hx15
            exact h9 _ _ _ (by omega : (n - (k + 1)) < _) ⟨k + 1, (z + ((x14.size : Nat) : Int)), (fun iU9 => lk [(0, .slice A n c), (1, .string sep), (4, .string (⟨#[]⟩ : ByteArray)), (5, .bool false), (6, .int .i64 (z + ((x14.size : Nat) : Int))), (8, .string x14), (16, .bool false), (20, .slice A n c), (21, .int .i64 ((n : Nat) : Int)), (22, .int .i64 ((k + 1 : Nat) : Int)), (23, .bool true), (38, .bool false)] iU9 (U37 iU9)), (by kernel_rfl), rfl, (by omega), (by omega), (by omega), (all_take hall hx15 (idxB_not (bAt_lt _ _) (by omega))), c36⟩
      · refine W.q (v := .bool false) (hr := (r_lss (m := ((k : Nat) : Int)) (n := ((n : Nat) : Int)) rfl (by kernel_rfl) (by kernel_rfl) (decide_eq_false q12))) (h := ?_)
        refine W.endF 43 [(0, .slice A n c), (1, .string sep), (4, .string (⟨#[]⟩ : ByteArray)), (5, .bool false), (6, .int .i64 z), (16, .bool false), (20, .slice A n c), (21, .int .i64 ((n : Nat) : Int)), (22, .int .i64 ((k : Nat) : Int)), (23, .bool false)] (fun U38 => ?_)
        refine h10 _ _ ?_
        refine wp_seq_k (fun K18 h18 => ?_)
        refine wp_cond_false (by kernel_rfl) ?_
        refine wp_exit ?_
        refine h7 _ _ ?_
        refine wp_seq_k (fun K19 h19 => ?_)
        refine W.region_plain (row := none) [(0, false), (1, false), (2, true), (3, false), (4, false)] (by kernel_rfl) ?_
        have s39 := SG.self wl0 none
        refine W.mv (v := .slice A n c) (h := ?_)
        refine W.mv (v := .string sep) (h := ?_)
        refine W.sc (vs := [.slice A n c, .string sep]) rfl rfl (by kernel_rfl) (by kernel_rfl) (by kernel_rfl) rfl (join_lib A n c zs sep _ (Rd.kept ha (SG.belowR c11 s39 (fun kq e => by cases e))) hf (by omega) (by omega) (by have ge9 := joinB_size zs sep (by omega); rw [show sep.size = 1 by omega] at ge9; have e5 : zs.take k = zs := List.take_of_length_le (by omega); rw [e5] at hsz; omega)) ?_
        rintro e w41 ⟨rfl, b40⟩
        have s42 := SG.of_below s39 b40
        refine ⟨_, rfl, s42, ?_⟩
        refine W.as (v := .string (joinB zs sep)) (h := ?_)
        refine W.as (v := .bool true) (h := ?_)
        refine W.endF 43 [(0, .slice A n c), (1, .string sep), (4, .string (joinB zs sep)), (5, .bool true), (6, .int .i64 z), (16, .bool false), (20, .slice A n c), (21, .int .i64 ((n : Nat) : Int)), (22, .int .i64 ((k : Nat) : Int)), (23, .bool false)] (fun U43 => ?_)
        have c44 := (SG.belowR c11 s42 (fun kq e => by cases e))
        refine h19 _ _ ?_
        refine wp_ret ?_
        try simp only [Exit.then]
        refine ret2 (v := .string (joinB zs sep)) (x := .bool true) rfl (by kernel_rfl) (by kernel_rfl) ?_
        have e6 : k = zs.length := by omega
        rw [e6, List.take_length] at hall hsz
        have e7 : JoinStrings_v1 zs sep = true := join_yes (by omega) (by omega) hall (by omega)
        exact ⟨by unfold JoinStrings_v0; rw [if_pos e7, e7], c44⟩

end Go.Proofs.Ytgpallafdmjbdaa
