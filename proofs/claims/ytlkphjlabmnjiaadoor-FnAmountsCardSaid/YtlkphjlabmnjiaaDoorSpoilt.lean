/- A text with a byte more, less, or another one. -/
import Derived.Test.YtlkphjlabmnjiaaDoorCur
import Derived.Test.YtlkphjlabmnjiaaDoorRes
import Derived.Test.YtlkphjlabmnjiaaDoorSch5
import Derived.Test.YtlkphjlabmnjiaaDoorJoinK
import Derived.Test.YtlkphjlabmnjiaaDoorFr
namespace Go.Proofs.YtlkphjlabmnjiaaDoor
open Go.RowKit
set_option linter.unusedVariables false
set_option linter.unusedSimpArgs false

theorem pos_of_ne {t : ByteArray} (h : ¬ t = (⟨#[]⟩ : ByteArray)) : 1 ≤ t.size := by
  rcases Nat.eq_zero_or_pos t.size with h1 | h1
  · refine absurd ?_ h
    apply ByteArray.ext
    exact Array.eq_empty_of_size_eq_zero h1
  · exact h1

set_option maxRecDepth 100000 in
set_option maxHeartbeats 8000000 in
theorem spoilt_any (B N k : Nat) (t wi : ByteArray) (w : World) (hc : Cur w B N k) (hk : k ≤ 900000000000) (ht : t.size ≤ 1000000) (hw : 1 ≤ wi.size ∧ wi.size ≤ 1000) :
    Calls Tryd.prog 64 #[.pointer (some ⟨B, 0, none⟩), .string t, .string wi] w fun e w' => ∃ s, e = .returned (.string s) ∧ (s.size ≤ t.size + 1) ∧ Cur w' B N (k + 6) ∧ w.grownBy w' (some B) := by
  have hN := Cur.hN hc
  go_enter Tryd.func64, Tryd.ntmps64
  refine wp_seq_k (fun K1 h1 => ?_)
  refine W.region_quiet [(0, false)] (by kernel_rfl) ?_
  refine W.as (v := .string (⟨#[]⟩ : ByteArray)) (h := ?_)
  refine W.endF 57 [(0, .pointer (some ⟨B, 0, none⟩)), (1, .string t), (2, .string wi), (6, .string (⟨#[]⟩ : ByteArray))] (fun U1 => ?_)
  refine h1 _ _ ?_
  refine wp_seq_k (fun K2 h2 => ?_)
  refine wp_seq_k (fun K3 h3 => ?_)
  refine W.region_quiet [(0, false), (1, false)] (by kernel_rfl) ?_
  refine F.mv (v := .string t) (h := ?_)
  by_cases q2 : t = (⟨#[]⟩ : ByteArray)
  · refine F.q (v := .bool true) (hr := (r_eqlS (s := t) (r := (⟨#[]⟩ : ByteArray)) rfl (ev_any (by kernel_rfl)) (ev_any (by kernel_rfl)) (decide_eq_true q2))) (h := ?_)
    refine F.endF [(0, .pointer (some ⟨B, 0, none⟩)), (1, .string t), (2, .string wi), (6, .string (⟨#[]⟩ : ByteArray)), (10, .bool true)] (fun U3 => ?_)
    refine h3 _ _ ?_
    refine wp_cond_true (by kernel_rfl) ?_
    refine wp_seq_k (fun K4 h4 => ?_)
    refine W.region_quiet [(0, false), (1, false), (2, false)] (by kernel_rfl) ?_
    refine F.mv (v := .string wi) (h := ?_)
    refine F.q (v := .string (wi.extract 0 1)) (hr := (r_toS (s := wi) (h := 1) rfl (ev_any (by kernel_rfl)) (ev_any (by kernel_rfl)) (by kernel_rfl) (by (try simp only [ByteArray.size_append, ByteArray.size_extract]); omega))) (h := ?_)
    refine F.as (v := .string (wi.extract 0 1)) (h := ?_)
    refine F.endF [(0, .pointer (some ⟨B, 0, none⟩)), (1, .string t), (2, .string wi), (6, .string (wi.extract 0 1)), (10, .bool true)] (fun U4 => ?_)
    refine h4 _ _ ?_
    refine wp_ret ?_
    try simp only [Exit.then]
    refine ret1 (v := .string (wi.extract 0 1)) rfl (by kernel_rfl) ?_
    exact ⟨_, rfl, (by (try simp only [ByteArray.size_append, ByteArray.size_extract]); omega), Cur.mono hc (by omega), (World.grownBy.refl _ _)⟩
  · have hpos := pos_of_ne q2
    refine F.q (v := .bool false) (hr := (r_eqlS (s := t) (r := (⟨#[]⟩ : ByteArray)) rfl (ev_any (by kernel_rfl)) (ev_any (by kernel_rfl)) (decide_eq_false q2))) (h := ?_)
    refine F.endF [(0, .pointer (some ⟨B, 0, none⟩)), (1, .string t), (2, .string wi), (6, .string (⟨#[]⟩ : ByteArray)), (10, .bool false)] (fun U5 => ?_)
    refine h3 _ _ ?_
    refine wp_cond_false (by kernel_rfl) ?_
    refine wp_skip ?_
    refine h2 _ _ ?_
    refine wp_seq_k (fun K5 h5 => ?_)
    refine W.region_plain (row := (some B)) [(0, false), (1, false), (2, false), (3, true), (4, false)] (by kernel_rfl) ?_
    have s6 := SG.self w (some B)
    refine F.mv (v := .pointer (some ⟨B, 0, none⟩)) (h := ?_)
    refine F.mv (v := .string t) (h := ?_)
    refine F.q (v := .int .i64 ((t.size : Nat) : Int)) (hr := (r_lenS (s := t) rfl (ev_any (by kernel_rfl)) (by kernel_rfl))) (h := ?_)
    refine W.sc (vs := [.pointer (some ⟨B, 0, none⟩), .int .i64 ((t.size : Nat) : Int)]) rfl rfl (by kernel_rfl) (by kernel_rfl) (by kernel_rfl) rfl (pick_nat B N k ((t.size : Nat) : Int) _ hc (by omega) (by omega)) ?_
    rintro e w10 ⟨x7, rfl, hx8, x12, g11⟩
    have s13 := SG.of_grown s6 g11 (.inl rfl)
    refine ⟨_, rfl, s13, ?_⟩
    refine F.nx ?_
    refine F.as (v := .int .i64 ((x7 : Nat) : Int)) (h := ?_)
    refine F.endF [(0, .pointer (some ⟨B, 0, none⟩)), (1, .string t), (2, .string wi), (6, .string (⟨#[]⟩ : ByteArray)), (7, .int .i64 ((x7 : Nat) : Int)), (10, .bool false)] (fun U14 => ?_)
    have c15 := (SG.fr (B := B) (World.grownBy.refl _ _) s13 (fun kq e => .inl (by cases e; rfl)))
    refine h5 _ _ ?_
    refine wp_seq_k (fun K6 h6 => ?_)
    refine W.region_plain (row := (some B)) [(0, false), (1, false), (2, false), (3, false), (4, true), (5, false), (6, false), (7, false)] (by kernel_rfl) ?_
    have s16 := SG.self w10 (some B)
    refine F.mv (v := .string wi) (h := ?_)
    refine F.mv (v := .pointer (some ⟨B, 0, none⟩)) (h := ?_)
    refine F.mv (v := .string wi) (h := ?_)
    refine F.q (v := .int .i64 ((wi.size : Nat) : Int)) (hr := (r_lenS (s := wi) rfl (ev_any (by kernel_rfl)) (by kernel_rfl))) (h := ?_)
    refine W.sc (vs := [.pointer (some ⟨B, 0, none⟩), .int .i64 ((wi.size : Nat) : Int)]) rfl rfl (by kernel_rfl) (by kernel_rfl) (by kernel_rfl) rfl (pick_nat B N (k + 2) ((wi.size : Nat) : Int) _ x12 (by omega) (by omega)) ?_
    rintro e w20 ⟨x17, rfl, hx18, x22, g21⟩
    have s23 := SG.of_grown s16 g21 (.inl rfl)
    refine ⟨_, rfl, s23, ?_⟩
    refine F.nx ?_
    refine F.q (v := .string (wi.extract x17 wi.size)) (hr := (r_fromS (s := wi) (l := x17) rfl (ev_any (by kernel_rfl)) (ev_any (by kernel_rfl)) (by kernel_rfl) (by (try simp only [ByteArray.size_append, ByteArray.size_extract]); omega))) (h := ?_)
    refine F.q (v := .string ((wi.extract x17 wi.size).extract 0 1)) (hr := (r_toS (s := (wi.extract x17 wi.size)) (h := 1) rfl (ev_any (by kernel_rfl)) (ev_any (by kernel_rfl)) (by kernel_rfl) (by (try simp only [ByteArray.size_append, ByteArray.size_extract]); omega))) (h := ?_)
    refine F.as (v := .string ((wi.extract x17 wi.size).extract 0 1)) (h := ?_)
    refine F.endF [(0, .pointer (some ⟨B, 0, none⟩)), (1, .string t), (2, .string wi), (6, .string (⟨#[]⟩ : ByteArray)), (7, .int .i64 ((x7 : Nat) : Int)), (8, .string ((wi.extract x17 wi.size).extract 0 1)), (10, .bool false)] (fun U24 => ?_)
    have c25 := (SG.fr (B := B) c15 s23 (fun kq e => .inl (by cases e; rfl)))
    refine h6 _ _ ?_
    refine wp_seq_k (fun K7 h7 => ?_)
    refine wp_seq_k (fun K8 h8 => ?_)
    refine W.region_plain (row := (some B)) [(0, false), (1, true)] (by kernel_rfl) ?_
    have s26 := SG.self w20 (some B)
    refine F.mv (v := .pointer (some ⟨B, 0, none⟩)) (h := ?_)
    refine W.sc (vs := [.pointer (some ⟨B, 0, none⟩), .int .i64 3]) rfl rfl (by kernel_rfl) (by kernel_rfl) (by kernel_rfl) rfl (pick_nat B N ((k + 2) + 2) 3 _ x22 (by omega) (by omega)) ?_
    rintro e w30 ⟨x27, rfl, hx28, x32, g31⟩
    have s33 := SG.of_grown s26 g31 (.inl rfl)
    refine ⟨_, rfl, s33, ?_⟩
    refine F.nx ?_
    refine F.endF [(0, .pointer (some ⟨B, 0, none⟩)), (1, .string t), (2, .string wi), (6, .string (⟨#[]⟩ : ByteArray)), (7, .int .i64 ((x7 : Nat) : Int)), (8, .string ((wi.extract x17 wi.size).extract 0 1)), (10, .bool false), (25, .int .i64 ((x27 : Nat) : Int))] (fun U34 => ?_)
    have c35 := (SG.fr (B := B) c25 s33 (fun kq e => .inl (by cases e; rfl)))
    refine h8 _ _ ?_
    refine wp_block ?_
    refine wp_seq_k (fun K9 h9 => ?_)
    refine W.region_quiet [(0, false), (1, false)] (by kernel_rfl) ?_
    by_cases q36 : (((x27 : Nat) : Int) : Int) = (0 : Int)
    · refine F.q (v := .bool true) (hr := (r_eql (m := ((x27 : Nat) : Int)) (n := 0) rfl (ev_any (by kernel_rfl)) (ev_any (by kernel_rfl)) (decide_eq_true q36))) (h := ?_)
      refine F.as (v := .bool true) (h := ?_)
      refine F.endF [(0, .pointer (some ⟨B, 0, none⟩)), (1, .string t), (2, .string wi), (6, .string (⟨#[]⟩ : ByteArray)), (7, .int .i64 ((x7 : Nat) : Int)), (8, .string ((wi.extract x17 wi.size).extract 0 1)), (10, .bool false), (25, .int .i64 ((x27 : Nat) : Int)), (26, .bool true)] (fun U37 => ?_)
      refine h9 _ _ ?_
      refine wp_cond_true (by kernel_rfl) ?_
      refine wp_seq_k (fun K10 h10 => ?_)
      refine W.region_sch (row := none) (Sch.of [(0, false), (1, false), (2, false), (3, false), (4, false), (5, false), (6, false), (7, false), (8, false), (9, false)]) (by kernel_rfl) (by kernel_rfl) (fun _ d _ _ _ h => by cases d <;> exact h) (by kernel_rfl) (fun w38 e39 s40 => ?_)
      refine F.mv (v := .string t) (h := ?_)
      refine F.mv (v := .int .i64 ((x7 : Nat) : Int)) (h := ?_)
      refine F.q (v := .string (t.extract 0 x7)) (hr := (r_toS (s := t) (h := x7) rfl (ev_any (by kernel_rfl)) (ev_any (by kernel_rfl)) (by kernel_rfl) (by (try simp only [ByteArray.size_append, ByteArray.size_extract]); omega))) (h := ?_)
      refine F.mv (v := .string ((wi.extract x17 wi.size).extract 0 1)) (h := ?_)
      refine F.q (v := .string ((t.extract 0 x7) ++ ((wi.extract x17 wi.size).extract 0 1))) (hr := (r_addS (s := (t.extract 0 x7)) (r := ((wi.extract x17 wi.size).extract 0 1)) rfl (ev_any (by kernel_rfl)) (ev_any (by kernel_rfl)) (by (try simp only [ByteArray.size_append, ByteArray.size_extract]); omega))) (h := ?_)
      refine F.mv (v := .string t) (h := ?_)
      refine F.mv (v := .int .i64 ((x7 : Nat) : Int)) (h := ?_)
      refine F.q (v := .string (t.extract x7 t.size)) (hr := (r_fromS (s := t) (l := x7) rfl (ev_any (by kernel_rfl)) (ev_any (by kernel_rfl)) (by kernel_rfl) (by (try simp only [ByteArray.size_append, ByteArray.size_extract]); omega))) (h := ?_)
      refine F.q (v := .string (((t.extract 0 x7) ++ ((wi.extract x17 wi.size).extract 0 1)) ++ (t.extract x7 t.size))) (hr := (r_addS (s := ((t.extract 0 x7) ++ ((wi.extract x17 wi.size).extract 0 1))) (r := (t.extract x7 t.size)) rfl (ev_any (by kernel_rfl)) (ev_any (by kernel_rfl)) (by (try simp only [ByteArray.size_append, ByteArray.size_extract]); omega))) (h := ?_)
      refine F.as (v := .string (((t.extract 0 x7) ++ ((wi.extract x17 wi.size).extract 0 1)) ++ (t.extract x7 t.size))) (h := ?_)
      refine F.endF [(0, .pointer (some ⟨B, 0, none⟩)), (1, .string t), (2, .string wi), (6, .string (((t.extract 0 x7) ++ ((wi.extract x17 wi.size).extract 0 1)) ++ (t.extract x7 t.size))), (7, .int .i64 ((x7 : Nat) : Int)), (8, .string ((wi.extract x17 wi.size).extract 0 1)), (10, .bool false), (25, .int .i64 ((x27 : Nat) : Int)), (26, .bool true)] (fun U41 => ?_)
      have x32 := Cur.below x32 (SG.below s40)
      have c42 := (SG.fr (B := B) c35 s40 (fun kq e => by cases e))
      refine h10 _ _ ?_
      refine wp_ret ?_
      try simp only [Exit.then, Exit.inBlock]
      refine ret1 (v := .string (((t.extract 0 x7) ++ ((wi.extract x17 wi.size).extract 0 1)) ++ (t.extract x7 t.size))) rfl (by kernel_rfl) ?_
      exact ⟨_, rfl, (by (try simp only [ByteArray.size_append, ByteArray.size_extract]); omega), Cur.mono x32 (by omega), c42⟩
    · refine F.q (v := .bool false) (hr := (r_eql (m := ((x27 : Nat) : Int)) (n := 0) rfl (ev_any (by kernel_rfl)) (ev_any (by kernel_rfl)) (decide_eq_false q36))) (h := ?_)
      refine F.as (v := .bool false) (h := ?_)
      refine F.endF [(0, .pointer (some ⟨B, 0, none⟩)), (1, .string t), (2, .string wi), (6, .string (⟨#[]⟩ : ByteArray)), (7, .int .i64 ((x7 : Nat) : Int)), (8, .string ((wi.extract x17 wi.size).extract 0 1)), (10, .bool false), (25, .int .i64 ((x27 : Nat) : Int)), (26, .bool false)] (fun U43 => ?_)
      refine h9 _ _ ?_
      refine wp_cond_false (by kernel_rfl) ?_
      refine wp_seq_k (fun K11 h11 => ?_)
      refine W.region_quiet [(0, false), (1, false)] (by kernel_rfl) ?_
      by_cases q44 : (((x27 : Nat) : Int) : Int) = (1 : Int)
      · refine F.q (v := .bool true) (hr := (r_eql (m := ((x27 : Nat) : Int)) (n := 1) rfl (ev_any (by kernel_rfl)) (ev_any (by kernel_rfl)) (decide_eq_true q44))) (h := ?_)
        refine F.as (v := .bool true) (h := ?_)
        refine F.endF [(0, .pointer (some ⟨B, 0, none⟩)), (1, .string t), (2, .string wi), (6, .string (⟨#[]⟩ : ByteArray)), (7, .int .i64 ((x7 : Nat) : Int)), (8, .string ((wi.extract x17 wi.size).extract 0 1)), (10, .bool false), (25, .int .i64 ((x27 : Nat) : Int)), (26, .bool false), (37, .bool true)] (fun U45 => ?_)
        refine h11 _ _ ?_
        refine wp_cond_true (by kernel_rfl) ?_
        refine wp_seq_k (fun K12 h12 => ?_)
        refine W.region_sch (row := none) (Sch.of [(0, false), (1, false), (2, false), (3, false), (4, false), (5, false), (6, false), (7, false), (8, false), (9, false), (10, false)]) (by kernel_rfl) (by kernel_rfl) (fun _ d _ _ _ h => by cases d <;> exact h) (by kernel_rfl) (fun w46 e47 s48 => ?_)
        refine F.mv (v := .string t) (h := ?_)
        refine F.mv (v := .int .i64 ((x7 : Nat) : Int)) (h := ?_)
        refine F.q (v := .string (t.extract 0 x7)) (hr := (r_toS (s := t) (h := x7) rfl (ev_any (by kernel_rfl)) (ev_any (by kernel_rfl)) (by kernel_rfl) (by (try simp only [ByteArray.size_append, ByteArray.size_extract]); omega))) (h := ?_)
        refine F.mv (v := .string ((wi.extract x17 wi.size).extract 0 1)) (h := ?_)
        refine F.q (v := .string ((t.extract 0 x7) ++ ((wi.extract x17 wi.size).extract 0 1))) (hr := (r_addS (s := (t.extract 0 x7)) (r := ((wi.extract x17 wi.size).extract 0 1)) rfl (ev_any (by kernel_rfl)) (ev_any (by kernel_rfl)) (by (try simp only [ByteArray.size_append, ByteArray.size_extract]); omega))) (h := ?_)
        refine F.mv (v := .string t) (h := ?_)
        refine F.mv (v := .int .i64 ((x7 : Nat) : Int)) (h := ?_)
        refine F.q (v := .int .i64 ((x7 + 1 : Nat) : Int)) (hr := (r_add (m := ((x7 : Nat) : Int)) (n := 1) (z := ((x7 + 1 : Nat) : Int)) rfl (ev_any (by kernel_rfl)) (ev_any (by kernel_rfl)) (by omega) (by omega))) (h := ?_)
        refine F.q (v := .string (t.extract (x7 + 1) t.size)) (hr := (r_fromS (s := t) (l := x7 + 1) rfl (ev_any (by kernel_rfl)) (ev_any (by kernel_rfl)) (by kernel_rfl) (by (try simp only [ByteArray.size_append, ByteArray.size_extract]); omega))) (h := ?_)
        refine F.q (v := .string (((t.extract 0 x7) ++ ((wi.extract x17 wi.size).extract 0 1)) ++ (t.extract (x7 + 1) t.size))) (hr := (r_addS (s := ((t.extract 0 x7) ++ ((wi.extract x17 wi.size).extract 0 1))) (r := (t.extract (x7 + 1) t.size)) rfl (ev_any (by kernel_rfl)) (ev_any (by kernel_rfl)) (by (try simp only [ByteArray.size_append, ByteArray.size_extract]); omega))) (h := ?_)
        refine F.as (v := .string (((t.extract 0 x7) ++ ((wi.extract x17 wi.size).extract 0 1)) ++ (t.extract (x7 + 1) t.size))) (h := ?_)
        refine F.endF [(0, .pointer (some ⟨B, 0, none⟩)), (1, .string t), (2, .string wi), (6, .string (((t.extract 0 x7) ++ ((wi.extract x17 wi.size).extract 0 1)) ++ (t.extract (x7 + 1) t.size))), (7, .int .i64 ((x7 : Nat) : Int)), (8, .string ((wi.extract x17 wi.size).extract 0 1)), (10, .bool false), (25, .int .i64 ((x27 : Nat) : Int)), (26, .bool false), (37, .bool true)] (fun U49 => ?_)
        have x32 := Cur.below x32 (SG.below s48)
        have c50 := (SG.fr (B := B) c35 s48 (fun kq e => by cases e))
        refine h12 _ _ ?_
        refine wp_ret ?_
        try simp only [Exit.then, Exit.inBlock]
        refine ret1 (v := .string (((t.extract 0 x7) ++ ((wi.extract x17 wi.size).extract 0 1)) ++ (t.extract (x7 + 1) t.size))) rfl (by kernel_rfl) ?_
        exact ⟨_, rfl, (by (try simp only [ByteArray.size_append, ByteArray.size_extract]); omega), Cur.mono x32 (by omega), c50⟩
      · refine F.q (v := .bool false) (hr := (r_eql (m := ((x27 : Nat) : Int)) (n := 1) rfl (ev_any (by kernel_rfl)) (ev_any (by kernel_rfl)) (decide_eq_false q44))) (h := ?_)
        refine F.as (v := .bool false) (h := ?_)
        refine F.endF [(0, .pointer (some ⟨B, 0, none⟩)), (1, .string t), (2, .string wi), (6, .string (⟨#[]⟩ : ByteArray)), (7, .int .i64 ((x7 : Nat) : Int)), (8, .string ((wi.extract x17 wi.size).extract 0 1)), (10, .bool false), (25, .int .i64 ((x27 : Nat) : Int)), (26, .bool false), (37, .bool false)] (fun U51 => ?_)
        refine h11 _ _ ?_
        refine wp_cond_false (by kernel_rfl) ?_
        refine wp_skip ?_
        refine h7 _ _ ?_
        refine wp_seq_k (fun K13 h13 => ?_)
        refine W.region_sch (row := none) (Sch.of [(0, false), (1, false), (2, false), (3, false), (4, false), (5, false), (6, false), (7, false), (8, false)]) (by kernel_rfl) (by kernel_rfl) (fun _ d _ _ _ h => by cases d <;> exact h) (by kernel_rfl) (fun w52 e53 s54 => ?_)
        refine F.mv (v := .string t) (h := ?_)
        refine F.mv (v := .int .i64 ((x7 : Nat) : Int)) (h := ?_)
        refine F.q (v := .string (t.extract 0 x7)) (hr := (r_toS (s := t) (h := x7) rfl (ev_any (by kernel_rfl)) (ev_any (by kernel_rfl)) (by kernel_rfl) (by (try simp only [ByteArray.size_append, ByteArray.size_extract]); omega))) (h := ?_)
        refine F.mv (v := .string t) (h := ?_)
        refine F.mv (v := .int .i64 ((x7 : Nat) : Int)) (h := ?_)
        refine F.q (v := .int .i64 ((x7 + 1 : Nat) : Int)) (hr := (r_add (m := ((x7 : Nat) : Int)) (n := 1) (z := ((x7 + 1 : Nat) : Int)) rfl (ev_any (by kernel_rfl)) (ev_any (by kernel_rfl)) (by omega) (by omega))) (h := ?_)
        refine F.q (v := .string (t.extract (x7 + 1) t.size)) (hr := (r_fromS (s := t) (l := x7 + 1) rfl (ev_any (by kernel_rfl)) (ev_any (by kernel_rfl)) (by kernel_rfl) (by (try simp only [ByteArray.size_append, ByteArray.size_extract]); omega))) (h := ?_)
        refine F.q (v := .string ((t.extract 0 x7) ++ (t.extract (x7 + 1) t.size))) (hr := (r_addS (s := (t.extract 0 x7)) (r := (t.extract (x7 + 1) t.size)) rfl (ev_any (by kernel_rfl)) (ev_any (by kernel_rfl)) (by (try simp only [ByteArray.size_append, ByteArray.size_extract]); omega))) (h := ?_)
        refine F.as (v := .string ((t.extract 0 x7) ++ (t.extract (x7 + 1) t.size))) (h := ?_)
        refine F.endF [(0, .pointer (some ⟨B, 0, none⟩)), (1, .string t), (2, .string wi), (6, .string ((t.extract 0 x7) ++ (t.extract (x7 + 1) t.size))), (7, .int .i64 ((x7 : Nat) : Int)), (8, .string ((wi.extract x17 wi.size).extract 0 1)), (10, .bool false), (25, .int .i64 ((x27 : Nat) : Int)), (26, .bool false), (37, .bool false)] (fun U55 => ?_)
        have x32 := Cur.below x32 (SG.below s54)
        have c56 := (SG.fr (B := B) c35 s54 (fun kq e => by cases e))
        refine h13 _ _ ?_
        refine wp_ret ?_
        try simp only [Exit.then]
        refine ret1 (v := .string ((t.extract 0 x7) ++ (t.extract (x7 + 1) t.size))) rfl (by kernel_rfl) ?_
        exact ⟨_, rfl, (by (try simp only [ByteArray.size_append, ByteArray.size_extract]); omega), Cur.mono x32 (by omega), c56⟩

end Go.Proofs.YtlkphjlabmnjiaaDoor
