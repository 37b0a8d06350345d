/- Drawn amounts and numbers. -/
import Derived.Test.YtlkphjlabmnjiaaDoorCur
import Derived.Test.YtlkphjlabmnjiaaDoorRes
import Derived.Test.YtlkphjlabmnjiaaDoorSch5
import Derived.Test.YtlkphjlabmnjiaaDoorJoinK
import Derived.Test.YtlkphjlabmnjiaaDoorFr
namespace Go.Proofs.YtlkphjlabmnjiaaDoor
open Go.RowKit
set_option linter.unusedVariables false
set_option linter.unusedSimpArgs false

theorem bnd_of {zs : List Int} {x : Int} (lo hi : Int) (hx : x ∈ zs) (h : zs.all (fun z => decide (lo ≤ z) && decide (z ≤ hi)) = true) : lo ≤ x ∧ x ≤ hi := by
  have h1 := List.all_eq_true.1 h x hx
  simpa using h1

set_option maxRecDepth 100000 in
set_option maxHeartbeats 8000000 in
theorem amount_any (B N k : Nat)  (w : World) (hc : Cur w B N k) (hk : k ≤ 900000000000)  :
    Calls Tryd.prog 61 #[.pointer (some ⟨B, 0, none⟩)] w fun e w' => ∃ (v u : Int), e = .returned (.agg #[.int .i64 v, .int .i64 u]) ∧ ((-1 ≤ v ∧ v ≤ 1000001) ∧ 0 ≤ u ∧ u ≤ 5) ∧ Cur w' B N (k + 12) ∧ w.grownBy w' (some B) := by
  have hN := Cur.hN hc
  go_enter Tryd.func61, Tryd.ntmps61
  refine wp_seq_k (fun K1 h1 => ?_)
  refine W.region_plain (row := none) [(0, true)] (by kernel_rfl) ?_
  have s1 := SG.self w none
  refine W.sn (fun b => .pointer (some ⟨b, 0, none⟩)) #[.int .i64 0, .int .i64 0] 26 s1 rfl (by kernel_rfl) rfl (fun _ => by kernel_rfl) (fun b2 w3 hb4 k5 x6 s7 => ?_)
  have lo8 : w.heap.size ≤ b2 := Nat.le_trans ((SG.fr (B := B) (World.grownBy.refl _ _) s1 (fun kq e => by cases e))).size (Nat.le_of_eq hb4)
  have ne9 : B ≠ b2 := Nat.ne_of_lt (Nat.lt_of_lt_of_eq (Nat.lt_of_lt_of_le (Cur.lt hc) (s1).size) hb4)
  refine W.endF 24 [(0, .pointer (some ⟨B, 0, none⟩)), (2, .pointer (some ⟨b2, 0, none⟩))] (fun U10 => ?_)
  have hc := Cur.below hc (SG.below s7)
  have c11 := (SG.fr (B := B) (World.grownBy.refl _ _) s7 (fun kq e => by cases e))
  refine h1 _ _ ?_
  refine wp_seq_k (fun K2 h2 => ?_)
  refine W.region_plain (row := (some B)) [(0, false), (1, true), (2, true), (3, false), (4, true), (5, false), (6, false), (7, true), (8, true)] (by kernel_rfl) ?_
  have s12 := SG.self w3 (some B)
  refine F.mv (v := .pointer (some ⟨B, 0, none⟩)) (h := ?_)
  refine W.sn (fun b => .slice (some ⟨b, 0, none⟩) 10 10) #[.int .i64 0, .int .i64 1, .int .i64 5, .int .i64 12, .int .i64 36, .int .i64 60, .int .i64 1000, .int .i64 1440, .int .i64 999999, .int .i64 1000000] 3 s12 rfl (by kernel_rfl) rfl (fun _ => by kernel_rfl) (fun b13 w14 hb15 k16 x17 s18 => ?_)
  refine F.nx ?_
  have lo19 : w.heap.size ≤ b13 := Nat.le_trans ((SG.fr (B := B) c11 s12 (fun kq e => .inl (by cases e; rfl)))).size (Nat.le_of_eq hb15)
  have ne20 : B ≠ b13 := Nat.ne_of_lt (Nat.lt_of_lt_of_eq (Cur.lt hc) hb15)
  have ne21 : b2 ≠ b13 := Nat.ne_of_lt (Nat.lt_of_lt_of_eq (Nat.lt_of_lt_of_le (blk_lt x6) (s12).size) hb15)
  have hc := Cur.below hc k16
  refine W.sc (vs := [.pointer (some ⟨B, 0, none⟩), .slice (some ⟨b13, 0, none⟩) 10 10]) rfl rfl (by kernel_rfl) (by kernel_rfl) (by kernel_rfl) rfl (among_any B N k (some ⟨b13, 0, none⟩) 10 10 [0, 1, 5, 12, 36, 60, 1000, 1440, 999999, 1000000] _ hc (by omega) (rd_blk x17 rfl rfl) (sp_ne (by have := ne20; omega)) (by omega)) ?_
  rintro e w25 ⟨x22, rfl, hx23, x27, g26⟩
  have s28 := SG.of_grown s18 g26 (.inl rfl)
  refine ⟨_, rfl, s28, ?_⟩
  refine F.nx ?_
  have x17 := (g26.block _ (blk_lt x17) (fun e9 => ne20 (Option.some.inj e9).symm)).trans x17
  refine F.mv (v := .pointer (some ⟨B, 0, none⟩)) (h := ?_)
  refine W.sc (vs := [.pointer (some ⟨B, 0, none⟩), .int .i64 4]) rfl rfl (by kernel_rfl) (by kernel_rfl) (by kernel_rfl) rfl (pick_nat B N (k + 2) 4 _ x27 (by omega) (by omega)) ?_
  rintro e w32 ⟨x29, rfl, hx30, x34, g33⟩
  have s35 := SG.of_grown s28 g33 (.inl rfl)
  refine ⟨_, rfl, s35, ?_⟩
  refine F.nx ?_
  have x17 := (g33.block _ (blk_lt x17) (fun e9 => ne20 (Option.some.inj e9).symm)).trans x17
  refine F.q (v := .int .i64 ((1 + x29 : Nat) : Int)) (hr := (r_add (m := 1) (n := ((x29 : Nat) : Int)) (z := ((1 + x29 : Nat) : Int)) rfl (ev_any (by kernel_rfl)) (ev_any (by kernel_rfl)) (by omega) (by omega))) (h := ?_)
  refine F.q (v := .agg #[.int .i64 x22, .int .i64 ((1 + x29 : Nat) : Int)]) (hr := (r_build rfl (vs := [(0, .int .i64 x22), (1, .int .i64 ((1 + x29 : Nat) : Int))]) (by kernel_rfl) (by kernel_rfl))) (h := ?_)
  refine W.sn (fun b => .pointer (some ⟨b, 0, none⟩)) #[.int .i64 0, .int .i64 0] 26 s35 rfl (by kernel_rfl) rfl (fun _ => by kernel_rfl) (fun b36 w37 hb38 k39 x40 s41 => ?_)
  refine F.nx ?_
  have lo42 : w.heap.size ≤ b36 := Nat.le_trans ((SG.fr (B := B) c11 s35 (fun kq e => .inl (by cases e; rfl)))).size (Nat.le_of_eq hb38)
  have ne43 : B ≠ b36 := Nat.ne_of_lt (Nat.lt_of_lt_of_eq (Cur.lt x34) hb38)
  have ne44 : b2 ≠ b36 := Nat.ne_of_lt (Nat.lt_of_lt_of_eq (Nat.lt_of_lt_of_le (blk_lt x6) (s35).size) hb38)
  have ne45 : b13 ≠ b36 := Nat.ne_of_lt (Nat.lt_of_lt_of_eq (blk_lt x17) hb38)
  have x34 := Cur.below x34 k39
  have x17 := (k39.block _ (blk_lt x17)).trans x17
  refine W.ss (v := .agg #[.int .i64 x22, .int .i64 ((1 + x29 : Nat) : Int)]) (j := 0) (news := [.int .i64 x22, .int .i64 ((1 + x29 : Nat) : Int)]) (cs' := #[.int .i64 x22, .int .i64 ((1 + x29 : Nat) : Int)]) s41 rfl (by kernel_rfl) rfl rfl (by kernel_rfl) (by kernel_rfl) x40 (by kernel_rfl) (by kernel_rfl) (by simp) (by kernel_rfl) (by kernel_rfl) (.inr (Nat.le_trans (s35).size (Nat.le_of_eq hb38))) (fun w46 g47 x48 s49 => ?_)
  have x34 := Cur.grown x34 g47 (fun e9 => ne43 (Option.some.inj e9)) (fun j e => by cases e; exact Nat.le_trans hN lo42)
  have x17 := (g47.block _ (blk_lt x17) (fun e9 => ne45 (Option.some.inj e9))).trans x17
  refine F.endF [(0, .pointer (some ⟨B, 0, none⟩)), (2, .pointer (some ⟨b2, 0, none⟩)), (3, .pointer (some ⟨b36, 0, none⟩))] (fun U50 => ?_)
  have x6 := SG.blk s49 x6 (fun e9 => ne9 (Option.some.inj e9).symm)
  have c51 := (SG.fr (B := B) c11 s49 (fun kq e => .inl (by cases e; rfl)))
  refine h2 _ _ ?_
  refine wp_seq_k (fun K3 h3 => ?_)
  refine wp_seq_k (fun K4 h4 => ?_)
  refine W.region_plain (row := (some B)) [(0, false), (1, true)] (by kernel_rfl) ?_
  have s52 := SG.self w46 (some B)
  refine F.mv (v := .pointer (some ⟨B, 0, none⟩)) (h := ?_)
  refine W.sc (vs := [.pointer (some ⟨B, 0, none⟩), .int .i64 24]) rfl rfl (by kernel_rfl) (by kernel_rfl) (by kernel_rfl) rfl (one_any B N ((k + 2) + 2) 24 _ x34 (by omega) (by omega)) ?_
  rintro e w56 ⟨b53, rfl, _, x58, g57⟩
  have s59 := SG.of_grown s52 g57 (.inl rfl)
  refine ⟨_, rfl, s59, ?_⟩
  refine F.nx ?_
  rcases Bool.eq_false_or_eq_true b53 with q60 | q60
  · rw [q60]
    refine F.endF [(0, .pointer (some ⟨B, 0, none⟩)), (2, .pointer (some ⟨b2, 0, none⟩)), (3, .pointer (some ⟨b36, 0, none⟩)), (12, .bool true)] (fun U61 => ?_)
    have x6 := SG.blk s59 x6 (fun e9 => ne9 (Option.some.inj e9).symm)
    have x17 := SG.blk s59 x17 (fun e9 => ne20 (Option.some.inj e9).symm)
    have x48 := SG.blk s59 x48 (fun e9 => ne43 (Option.some.inj e9).symm)
    have c62 := (SG.fr (B := B) c51 s59 (fun kq e => .inl (by cases e; rfl)))
    refine h4 _ _ ?_
    refine wp_cond_true (by kernel_rfl) ?_
    refine M.region_plain (row := [(some B), (some b36)]) [(0, false), (1, true), (2, true), (3, false), (4, true)] (by kernel_rfl) ?_
    have s63 := SM.self w56 [(some B), (some b36)]
    refine F.mv (v := .pointer (some ⟨B, 0, none⟩)) (h := ?_)
    refine M.sn (fun b => .slice (some ⟨b, 0, none⟩) 2 2) #[.int .i64 (-1), .int .i64 1000001] 3 s63 rfl (by kernel_rfl) rfl (fun _ => by kernel_rfl) (fun b64 w65 hb66 k67 x68 s69 => ?_)
    refine F.nx ?_
    have lo70 : w.heap.size ≤ b64 := Nat.le_trans ((SM.fr (B := B) c62 s63 (in2 (fun kq e => .inl (by cases e; rfl)) (fun kq e => .inr (by cases e; exact lo42))))).size (Nat.le_of_eq hb66)
    have ne71 : B ≠ b64 := Nat.ne_of_lt (Nat.lt_of_lt_of_eq (Cur.lt x58) hb66)
    have ne72 : b2 ≠ b64 := Nat.ne_of_lt (Nat.lt_of_lt_of_eq (Nat.lt_of_lt_of_le (blk_lt x6) (s63).size) hb66)
    have ne73 : b13 ≠ b64 := Nat.ne_of_lt (Nat.lt_of_lt_of_eq (Nat.lt_of_lt_of_le (blk_lt x17) (s63).size) hb66)
    have ne74 : b36 ≠ b64 := Nat.ne_of_lt (Nat.lt_of_lt_of_eq (blk_lt x48) hb66)
    have x58 := Cur.below x58 k67
    have x48 := (k67.block _ (blk_lt x48)).trans x48
    refine W.sc (vs := [.pointer (some ⟨B, 0, none⟩), .slice (some ⟨b64, 0, none⟩) 2 2]) rfl rfl (by kernel_rfl) (by kernel_rfl) (by kernel_rfl) rfl (among_any B N (((k + 2) + 2) + 2) (some ⟨b64, 0, none⟩) 2 2 [(-1), 1000001] _ x58 (by omega) (rd_blk x68 rfl rfl) (sp_ne (by have := ne71; omega)) (by omega)) ?_
    rintro e w78 ⟨x75, rfl, hx76, x80, g79⟩
    have s81 := SM.of_grown s69 g79 (.inl (by simp))
    refine ⟨_, rfl, s81, ?_⟩
    refine F.nx ?_
    have x48 := (g79.block _ (blk_lt x48) (fun e9 => ne43 (Option.some.inj e9).symm)).trans x48
    have x68 := (g79.block _ (blk_lt x68) (fun e9 => ne71 (Option.some.inj e9).symm)).trans x68
    refine F.q (v := .pointer (some ⟨b36, 0, none⟩)) (hr := (r_field0 rfl (ev_any (by kernel_rfl)) (by kernel_rfl))) (h := ?_)
    refine M.ss (v := .int .i64 x75) (j := 0) (news := [.int .i64 x75]) (cs' := #[.int .i64 x75, .int .i64 ((1 + x29 : Nat) : Int)]) s81 rfl (by kernel_rfl) rfl rfl (by kernel_rfl) (by kernel_rfl) x48 (by kernel_rfl) (by kernel_rfl) (by simp) (by kernel_rfl) (by kernel_rfl) (.inl (by simp)) (fun w82 g83 x84 s85 => ?_)
    have x80 := Cur.grown x80 g83 (fun e9 => ne43 (Option.some.inj e9)) (fun j e => by cases e; exact Nat.le_trans hN lo42)
    have x68 := (g83.block _ (blk_lt x68) (fun e9 => ne74 (Option.some.inj e9).symm)).trans x68
    refine F.endF [(0, .pointer (some ⟨B, 0, none⟩)), (2, .pointer (some ⟨b2, 0, none⟩)), (3, .pointer (some ⟨b36, 0, none⟩)), (12, .bool true)] (fun U86 => ?_)
    have x6 := SM.blk s85 x6 (ne2 (fun e9 => ne9 (Option.some.inj e9).symm) (fun e9 => ne44 (Option.some.inj e9)))
    have x17 := SM.blk s85 x17 (ne2 (fun e9 => ne20 (Option.some.inj e9).symm) (fun e9 => ne45 (Option.some.inj e9)))
    have c87 := (SM.fr (B := B) c62 s85 (in2 (fun kq e => .inl (by cases e; rfl)) (fun kq e => .inr (by cases e; exact lo42))))
    refine h3 _ _ ?_
    refine wp_seq_k (fun K5 h5 => ?_)
    refine wp_seq_k (fun K6 h6 => ?_)
    refine W.region_plain (row := (some B)) [(0, false), (1, true)] (by kernel_rfl) ?_
    have s88 := SG.self w82 (some B)
    refine F.mv (v := .pointer (some ⟨B, 0, none⟩)) (h := ?_)
    refine W.sc (vs := [.pointer (some ⟨B, 0, none⟩), .int .i64 24]) rfl rfl (by kernel_rfl) (by kernel_rfl) (by kernel_rfl) rfl (one_any B N ((((k + 2) + 2) + 2) + 2) 24 _ x80 (by omega) (by omega)) ?_
    rintro e w92 ⟨b89, rfl, _, x94, g93⟩
    have s95 := SG.of_grown s88 g93 (.inl rfl)
    refine ⟨_, rfl, s95, ?_⟩
    refine F.nx ?_
    rcases Bool.eq_false_or_eq_true b89 with q96 | q96
    · rw [q96]
      refine F.endF [(0, .pointer (some ⟨B, 0, none⟩)), (2, .pointer (some ⟨b2, 0, none⟩)), (3, .pointer (some ⟨b36, 0, none⟩)), (12, .bool true), (18, .bool true)] (fun U97 => ?_)
      have x6 := SG.blk s95 x6 (fun e9 => ne9 (Option.some.inj e9).symm)
      have x17 := SG.blk s95 x17 (fun e9 => ne20 (Option.some.inj e9).symm)
      have x84 := SG.blk s95 x84 (fun e9 => ne43 (Option.some.inj e9).symm)
      have x68 := SG.blk s95 x68 (fun e9 => ne71 (Option.some.inj e9).symm)
      have c98 := (SG.fr (B := B) c87 s95 (fun kq e => .inl (by cases e; rfl)))
      refine h6 _ _ ?_
      refine wp_cond_true (by kernel_rfl) ?_
      refine M.region_plain (row := [(some B), (some b36)]) [(0, false), (1, true), (2, true), (3, false), (4, true)] (by kernel_rfl) ?_
      have s99 := SM.self w92 [(some B), (some b36)]
      refine F.mv (v := .pointer (some ⟨B, 0, none⟩)) (h := ?_)
      refine M.sn (fun b => .slice (some ⟨b, 0, none⟩) 2 2) #[.int .i64 0, .int .i64 5] 3 s99 rfl (by kernel_rfl) rfl (fun _ => by kernel_rfl) (fun b100 w101 hb102 k103 x104 s105 => ?_)
      refine F.nx ?_
      have lo106 : w.heap.size ≤ b100 := Nat.le_trans ((SM.fr (B := B) c98 s99 (in2 (fun kq e => .inl (by cases e; rfl)) (fun kq e => .inr (by cases e; exact lo42))))).size (Nat.le_of_eq hb102)
      have ne107 : B ≠ b100 := Nat.ne_of_lt (Nat.lt_of_lt_of_eq (Cur.lt x94) hb102)
      have ne108 : b2 ≠ b100 := Nat.ne_of_lt (Nat.lt_of_lt_of_eq (Nat.lt_of_lt_of_le (blk_lt x6) (s99).size) hb102)
      have ne109 : b13 ≠ b100 := Nat.ne_of_lt (Nat.lt_of_lt_of_eq (Nat.lt_of_lt_of_le (blk_lt x17) (s99).size) hb102)
      have ne110 : b36 ≠ b100 := Nat.ne_of_lt (Nat.lt_of_lt_of_eq (blk_lt x84) hb102)
      have ne111 : b64 ≠ b100 := Nat.ne_of_lt (Nat.lt_of_lt_of_eq (Nat.lt_of_lt_of_le (blk_lt x68) (s99).size) hb102)
      have x94 := Cur.below x94 k103
      have x84 := (k103.block _ (blk_lt x84)).trans x84
      refine W.sc (vs := [.pointer (some ⟨B, 0, none⟩), .slice (some ⟨b100, 0, none⟩) 2 2]) rfl rfl (by kernel_rfl) (by kernel_rfl) (by kernel_rfl) rfl (among_any B N (((((k + 2) + 2) + 2) + 2) + 2) (some ⟨b100, 0, none⟩) 2 2 [0, 5] _ x94 (by omega) (rd_blk x104 rfl rfl) (sp_ne (by have := ne107; omega)) (by omega)) ?_
      rintro e w115 ⟨x112, rfl, hx113, x117, g116⟩
      have s118 := SM.of_grown s105 g116 (.inl (by simp))
      refine ⟨_, rfl, s118, ?_⟩
      refine F.nx ?_
      have x84 := (g116.block _ (blk_lt x84) (fun e9 => ne43 (Option.some.inj e9).symm)).trans x84
      have x104 := (g116.block _ (blk_lt x104) (fun e9 => ne107 (Option.some.inj e9).symm)).trans x104
      refine F.q (v := .pointer (some ⟨b36, 1, none⟩)) (hr := (r_field (k := 1) rfl (ev_any (by kernel_rfl)) (by kernel_rfl))) (h := ?_)
      refine M.ss (v := .int .i64 x112) (j := 1) (news := [.int .i64 x112]) (cs' := #[.int .i64 x75, .int .i64 x112]) s118 rfl (by kernel_rfl) rfl rfl (by kernel_rfl) (by kernel_rfl) x84 (by kernel_rfl) (by kernel_rfl) (by simp) (by kernel_rfl) (by kernel_rfl) (.inl (by simp)) (fun w119 g120 x121 s122 => ?_)
      have x117 := Cur.grown x117 g120 (fun e9 => ne43 (Option.some.inj e9)) (fun j e => by cases e; exact Nat.le_trans hN lo42)
      have x104 := (g120.block _ (blk_lt x104) (fun e9 => ne110 (Option.some.inj e9).symm)).trans x104
      refine F.endF [(0, .pointer (some ⟨B, 0, none⟩)), (2, .pointer (some ⟨b2, 0, none⟩)), (3, .pointer (some ⟨b36, 0, none⟩)), (12, .bool true), (18, .bool true)] (fun U123 => ?_)
      have x6 := SM.blk s122 x6 (ne2 (fun e9 => ne9 (Option.some.inj e9).symm) (fun e9 => ne44 (Option.some.inj e9)))
      have x17 := SM.blk s122 x17 (ne2 (fun e9 => ne20 (Option.some.inj e9).symm) (fun e9 => ne45 (Option.some.inj e9)))
      have x68 := SM.blk s122 x68 (ne2 (fun e9 => ne71 (Option.some.inj e9).symm) (fun e9 => ne74 (Option.some.inj e9).symm))
      have c124 := (SM.fr (B := B) c98 s122 (in2 (fun kq e => .inl (by cases e; rfl)) (fun kq e => .inr (by cases e; exact lo42))))
      refine h5 _ _ ?_
      refine wp_seq_k (fun K7 h7 => ?_)
      refine W.region_plain (row := (some b2)) [(0, false), (1, true)] (by kernel_rfl) ?_
      have s125 := SG.self w119 (some b2)
      refine F.q (v := .agg #[.int .i64 x75, .int .i64 x112]) (hr := (r_load2 rfl (ev_any (by kernel_rfl)) (by kernel_rfl) (by kernel_rfl) (sgS (blk_cell (j := 0) x121 (by kernel_rfl)) (fun e9 => ne44 (Option.some.inj e9).symm)) (sgS (blk_cell (j := 1) x121 (by kernel_rfl)) (fun e9 => ne44 (Option.some.inj e9).symm)))) (h := ?_)
      refine W.ss (v := .agg #[.int .i64 x75, .int .i64 x112]) (j := 0) (news := [.int .i64 x75, .int .i64 x112]) (cs' := #[.int .i64 x75, .int .i64 x112]) s125 rfl (by kernel_rfl) rfl rfl (by kernel_rfl) (by kernel_rfl) x6 (by kernel_rfl) (by kernel_rfl) (by simp) (by kernel_rfl) (by kernel_rfl) (.inl rfl) (fun w126 g127 x128 s129 => ?_)
      refine F.endF [(0, .pointer (some ⟨B, 0, none⟩)), (2, .pointer (some ⟨b2, 0, none⟩)), (3, .pointer (some ⟨b36, 0, none⟩)), (12, .bool true), (18, .bool true)] (fun U130 => ?_)
      have x117 := Cur.grown x117 s129 (fun e9 => ne9 (Option.some.inj e9)) (fun j e => by cases e; exact Nat.le_trans hN lo8)
      have x17 := SG.blk s129 x17 (fun e9 => ne21 (Option.some.inj e9).symm)
      have x121 := SG.blk s129 x121 (fun e9 => ne44 (Option.some.inj e9).symm)
      have x68 := SG.blk s129 x68 (fun e9 => ne72 (Option.some.inj e9).symm)
      have x104 := SG.blk s129 x104 (fun e9 => ne108 (Option.some.inj e9).symm)
      have c131 := (SG.fr (B := B) c124 s129 (fun kq e => .inr (by cases e; exact lo8)))
      refine h7 _ _ ?_
      refine wp_ret ?_
      try simp only [Exit.then]
      refine retC rfl rfl (by kernel_rfl) (by kernel_rfl) x128 ?_
      exact ⟨_, _, rfl, ⟨bnd_of (-1) 1000001 hx76 (by decide), bnd_of (0) 5 hx113 (by decide)⟩, Cur.mono x117 (by omega), c131⟩
    · rw [q96]
      refine F.endF [(0, .pointer (some ⟨B, 0, none⟩)), (2, .pointer (some ⟨b2, 0, none⟩)), (3, .pointer (some ⟨b36, 0, none⟩)), (12, .bool true), (18, .bool false)] (fun U132 => ?_)
      have x6 := SG.blk s95 x6 (fun e9 => ne9 (Option.some.inj e9).symm)
      have x17 := SG.blk s95 x17 (fun e9 => ne20 (Option.some.inj e9).symm)
      have x84 := SG.blk s95 x84 (fun e9 => ne43 (Option.some.inj e9).symm)
      have x68 := SG.blk s95 x68 (fun e9 => ne71 (Option.some.inj e9).symm)
      have c133 := (SG.fr (B := B) c87 s95 (fun kq e => .inl (by cases e; rfl)))
      refine h6 _ _ ?_
      refine wp_cond_false (by kernel_rfl) ?_
      refine wp_skip ?_
      refine h5 _ _ ?_
      refine wp_seq_k (fun K8 h8 => ?_)
      refine W.region_plain (row := (some b2)) [(0, false), (1, true)] (by kernel_rfl) ?_
      have s134 := SG.self w92 (some b2)
      refine F.q (v := .agg #[.int .i64 x75, .int .i64 ((1 + x29 : Nat) : Int)]) (hr := (r_load2 rfl (ev_any (by kernel_rfl)) (by kernel_rfl) (by kernel_rfl) (sgS (blk_cell (j := 0) x84 (by kernel_rfl)) (fun e9 => ne44 (Option.some.inj e9).symm)) (sgS (blk_cell (j := 1) x84 (by kernel_rfl)) (fun e9 => ne44 (Option.some.inj e9).symm)))) (h := ?_)
      refine W.ss (v := .agg #[.int .i64 x75, .int .i64 ((1 + x29 : Nat) : Int)]) (j := 0) (news := [.int .i64 x75, .int .i64 ((1 + x29 : Nat) : Int)]) (cs' := #[.int .i64 x75, .int .i64 ((1 + x29 : Nat) : Int)]) s134 rfl (by kernel_rfl) rfl rfl (by kernel_rfl) (by kernel_rfl) x6 (by kernel_rfl) (by kernel_rfl) (by simp) (by kernel_rfl) (by kernel_rfl) (.inl rfl) (fun w135 g136 x137 s138 => ?_)
      refine F.endF [(0, .pointer (some ⟨B, 0, none⟩)), (2, .pointer (some ⟨b2, 0, none⟩)), (3, .pointer (some ⟨b36, 0, none⟩)), (12, .bool true), (18, .bool false)] (fun U139 => ?_)
      have x94 := Cur.grown x94 s138 (fun e9 => ne9 (Option.some.inj e9)) (fun j e => by cases e; exact Nat.le_trans hN lo8)
      have x17 := SG.blk s138 x17 (fun e9 => ne21 (Option.some.inj e9).symm)
      have x84 := SG.blk s138 x84 (fun e9 => ne44 (Option.some.inj e9).symm)
      have x68 := SG.blk s138 x68 (fun e9 => ne72 (Option.some.inj e9).symm)
      have c140 := (SG.fr (B := B) c133 s138 (fun kq e => .inr (by cases e; exact lo8)))
      refine h8 _ _ ?_
      refine wp_ret ?_
      try simp only [Exit.then]
      refine retC rfl rfl (by kernel_rfl) (by kernel_rfl) x137 ?_
      exact ⟨_, _, rfl, ⟨bnd_of (-1) 1000001 hx76 (by decide), ⟨by omega, by omega⟩⟩, Cur.mono x94 (by omega), c140⟩
  · rw [q60]
    refine F.endF [(0, .pointer (some ⟨B, 0, none⟩)), (2, .pointer (some ⟨b2, 0, none⟩)), (3, .pointer (some ⟨b36, 0, none⟩)), (12, .bool false)] (fun U141 => ?_)
    have x6 := SG.blk s59 x6 (fun e9 => ne9 (Option.some.inj e9).symm)
    have x17 := SG.blk s59 x17 (fun e9 => ne20 (Option.some.inj e9).symm)
    have x48 := SG.blk s59 x48 (fun e9 => ne43 (Option.some.inj e9).symm)
    have c142 := (SG.fr (B := B) c51 s59 (fun kq e => .inl (by cases e; rfl)))
    refine h4 _ _ ?_
    refine wp_cond_false (by kernel_rfl) ?_
    refine wp_skip ?_
    refine h3 _ _ ?_
    refine wp_seq_k (fun K9 h9 => ?_)
    refine wp_seq_k (fun K10 h10 => ?_)
    refine W.region_plain (row := (some B)) [(0, false), (1, true)] (by kernel_rfl) ?_
    have s143 := SG.self w56 (some B)
    refine F.mv (v := .pointer (some ⟨B, 0, none⟩)) (h := ?_)
    refine W.sc (vs := [.pointer (some ⟨B, 0, none⟩), .int .i64 24]) rfl rfl (by kernel_rfl) (by kernel_rfl) (by kernel_rfl) rfl (one_any B N (((k + 2) + 2) + 2) 24 _ x58 (by omega) (by omega)) ?_
    rintro e w147 ⟨b144, rfl, _, x149, g148⟩
    have s150 := SG.of_grown s143 g148 (.inl rfl)
    refine ⟨_, rfl, s150, ?_⟩
    refine F.nx ?_
    rcases Bool.eq_false_or_eq_true b144 with q151 | q151
    · rw [q151]
      refine F.endF [(0, .pointer (some ⟨B, 0, none⟩)), (2, .pointer (some ⟨b2, 0, none⟩)), (3, .pointer (some ⟨b36, 0, none⟩)), (12, .bool false), (18, .bool true)] (fun U152 => ?_)
      have x6 := SG.blk s150 x6 (fun e9 => ne9 (Option.some.inj e9).symm)
      have x17 := SG.blk s150 x17 (fun e9 => ne20 (Option.some.inj e9).symm)
      have x48 := SG.blk s150 x48 (fun e9 => ne43 (Option.some.inj e9).symm)
      have c153 := (SG.fr (B := B) c142 s150 (fun kq e => .inl (by cases e; rfl)))
      refine h10 _ _ ?_
      refine wp_cond_true (by kernel_rfl) ?_
      refine M.region_plain (row := [(some B), (some b36)]) [(0, false), (1, true), (2, true), (3, false), (4, true)] (by kernel_rfl) ?_
      have s154 := SM.self w147 [(some B), (some b36)]
      refine F.mv (v := .pointer (some ⟨B, 0, none⟩)) (h := ?_)
      refine M.sn (fun b => .slice (some ⟨b, 0, none⟩) 2 2) #[.int .i64 0, .int .i64 5] 3 s154 rfl (by kernel_rfl) rfl (fun _ => by kernel_rfl) (fun b155 w156 hb157 k158 x159 s160 => ?_)
      refine F.nx ?_
      have lo161 : w.heap.size ≤ b155 := Nat.le_trans ((SM.fr (B := B) c153 s154 (in2 (fun kq e => .inl (by cases e; rfl)) (fun kq e => .inr (by cases e; exact lo42))))).size (Nat.le_of_eq hb157)
      have ne162 : B ≠ b155 := Nat.ne_of_lt (Nat.lt_of_lt_of_eq (Cur.lt x149) hb157)
      have ne163 : b2 ≠ b155 := Nat.ne_of_lt (Nat.lt_of_lt_of_eq (Nat.lt_of_lt_of_le (blk_lt x6) (s154).size) hb157)
      have ne164 : b13 ≠ b155 := Nat.ne_of_lt (Nat.lt_of_lt_of_eq (Nat.lt_of_lt_of_le (blk_lt x17) (s154).size) hb157)
      have ne165 : b36 ≠ b155 := Nat.ne_of_lt (Nat.lt_of_lt_of_eq (blk_lt x48) hb157)
      have x149 := Cur.below x149 k158
      have x48 := (k158.block _ (blk_lt x48)).trans x48
      refine W.sc (vs := [.pointer (some ⟨B, 0, none⟩), .slice (some ⟨b155, 0, none⟩) 2 2]) rfl rfl (by kernel_rfl) (by kernel_rfl) (by kernel_rfl) rfl (among_any B N ((((k + 2) + 2) + 2) + 2) (some ⟨b155, 0, none⟩) 2 2 [0, 5] _ x149 (by omega) (rd_blk x159 rfl rfl) (sp_ne (by have := ne162; omega)) (by omega)) ?_
      rintro e w169 ⟨x166, rfl, hx167, x171, g170⟩
      have s172 := SM.of_grown s160 g170 (.inl (by simp))
      refine ⟨_, rfl, s172, ?_⟩
      refine F.nx ?_
      have x48 := (g170.block _ (blk_lt x48) (fun e9 => ne43 (Option.some.inj e9).symm)).trans x48
      have x159 := (g170.block _ (blk_lt x159) (fun e9 => ne162 (Option.some.inj e9).symm)).trans x159
      refine F.q (v := .pointer (some ⟨b36, 1, none⟩)) (hr := (r_field (k := 1) rfl (ev_any (by kernel_rfl)) (by kernel_rfl))) (h := ?_)
      refine M.ss (v := .int .i64 x166) (j := 1) (news := [.int .i64 x166]) (cs' := #[.int .i64 x22, .int .i64 x166]) s172 rfl (by kernel_rfl) rfl rfl (by kernel_rfl) (by kernel_rfl) x48 (by kernel_rfl) (by kernel_rfl) (by simp) (by kernel_rfl) (by kernel_rfl) (.inl (by simp)) (fun w173 g174 x175 s176 => ?_)
      have x171 := Cur.grown x171 g174 (fun e9 => ne43 (Option.some.inj e9)) (fun j e => by cases e; exact Nat.le_trans hN lo42)
      have x159 := (g174.block _ (blk_lt x159) (fun e9 => ne165 (Option.some.inj e9).symm)).trans x159
      refine F.endF [(0, .pointer (some ⟨B, 0, none⟩)), (2, .pointer (some ⟨b2, 0, none⟩)), (3, .pointer (some ⟨b36, 0, none⟩)), (12, .bool false), (18, .bool true)] (fun U177 => ?_)
      have x6 := SM.blk s176 x6 (ne2 (fun e9 => ne9 (Option.some.inj e9).symm) (fun e9 => ne44 (Option.some.inj e9)))
      have x17 := SM.blk s176 x17 (ne2 (fun e9 => ne20 (Option.some.inj e9).symm) (fun e9 => ne45 (Option.some.inj e9)))
      have c178 := (SM.fr (B := B) c153 s176 (in2 (fun kq e => .inl (by cases e; rfl)) (fun kq e => .inr (by cases e; exact lo42))))
      refine h9 _ _ ?_
      refine wp_seq_k (fun K11 h11 => ?_)
      refine W.region_plain (row := (some b2)) [(0, false), (1, true)] (by kernel_rfl) ?_
      have s179 := SG.self w173 (some b2)
      refine F.q (v := .agg #[.int .i64 x22, .int .i64 x166]) (hr := (r_load2 rfl (ev_any (by kernel_rfl)) (by kernel_rfl) (by kernel_rfl) (sgS (blk_cell (j := 0) x175 (by kernel_rfl)) (fun e9 => ne44 (Option.some.inj e9).symm)) (sgS (blk_cell (j := 1) x175 (by kernel_rfl)) (fun e9 => ne44 (Option.some.inj e9).symm)))) (h := ?_)
      refine W.ss (v := .agg #[.int .i64 x22, .int .i64 x166]) (j := 0) (news := [.int .i64 x22, .int .i64 x166]) (cs' := #[.int .i64 x22, .int .i64 x166]) s179 rfl (by kernel_rfl) rfl rfl (by kernel_rfl) (by kernel_rfl) x6 (by kernel_rfl) (by kernel_rfl) (by simp) (by kernel_rfl) (by kernel_rfl) (.inl rfl) (fun w180 g181 x182 s183 => ?_)
      refine F.endF [(0, .pointer (some ⟨B, 0, none⟩)), (2, .pointer (some ⟨b2, 0, none⟩)), (3, .pointer (some ⟨b36, 0, none⟩)), (12, .bool false), (18, .bool true)] (fun U184 => ?_)
      have x171 := Cur.grown x171 s183 (fun e9 => ne9 (Option.some.inj e9)) (fun j e => by cases e; exact Nat.le_trans hN lo8)
      have x17 := SG.blk s183 x17 (fun e9 => ne21 (Option.some.inj e9).symm)
      have x175 := SG.blk s183 x175 (fun e9 => ne44 (Option.some.inj e9).symm)
      have x159 := SG.blk s183 x159 (fun e9 => ne163 (Option.some.inj e9).symm)
      have c185 := (SG.fr (B := B) c178 s183 (fun kq e => .inr (by cases e; exact lo8)))
      refine h11 _ _ ?_
      refine wp_ret ?_
      try simp only [Exit.then]
      refine retC rfl rfl (by kernel_rfl) (by kernel_rfl) x182 ?_
      exact ⟨_, _, rfl, ⟨bnd_of (-1) 1000001 hx23 (by decide), bnd_of (0) 5 hx167 (by decide)⟩, Cur.mono x171 (by omega), c185⟩
    · rw [q151]
      refine F.endF [(0, .pointer (some ⟨B, 0, none⟩)), (2, .pointer (some ⟨b2, 0, none⟩)), (3, .pointer (some ⟨b36, 0, none⟩)), (12, .bool false), (18, .bool false)] (fun U186 => ?_)
      have x6 := SG.blk s150 x6 (fun e9 => ne9 (Option.some.inj e9).symm)
      have x17 := SG.blk s150 x17 (fun e9 => ne20 (Option.some.inj e9).symm)
      have x48 := SG.blk s150 x48 (fun e9 => ne43 (Option.some.inj e9).symm)
      have c187 := (SG.fr (B := B) c142 s150 (fun kq e => .inl (by cases e; rfl)))
      refine h10 _ _ ?_
      refine wp_cond_false (by kernel_rfl) ?_
      refine wp_skip ?_
      refine h9 _ _ ?_
      refine wp_seq_k (fun K12 h12 => ?_)
      refine W.region_plain (row := (some b2)) [(0, false), (1, true)] (by kernel_rfl) ?_
      have s188 := SG.self w147 (some b2)
      refine F.q (v := .agg #[.int .i64 x22, .int .i64 ((1 + x29 : Nat) : Int)]) (hr := (r_load2 rfl (ev_any (by kernel_rfl)) (by kernel_rfl) (by kernel_rfl) (sgS (blk_cell (j := 0) x48 (by kernel_rfl)) (fun e9 => ne44 (Option.some.inj e9).symm)) (sgS (blk_cell (j := 1) x48 (by kernel_rfl)) (fun e9 => ne44 (Option.some.inj e9).symm)))) (h := ?_)
      refine W.ss (v := .agg #[.int .i64 x22, .int .i64 ((1 + x29 : Nat) : Int)]) (j := 0) (news := [.int .i64 x22, .int .i64 ((1 + x29 : Nat) : Int)]) (cs' := #[.int .i64 x22, .int .i64 ((1 + x29 : Nat) : Int)]) s188 rfl (by kernel_rfl) rfl rfl (by kernel_rfl) (by kernel_rfl) x6 (by kernel_rfl) (by kernel_rfl) (by simp) (by kernel_rfl) (by kernel_rfl) (.inl rfl) (fun w189 g190 x191 s192 => ?_)
      refine F.endF [(0, .pointer (some ⟨B, 0, none⟩)), (2, .pointer (some ⟨b2, 0, none⟩)), (3, .pointer (some ⟨b36, 0, none⟩)), (12, .bool false), (18, .bool false)] (fun U193 => ?_)
      have x149 := Cur.grown x149 s192 (fun e9 => ne9 (Option.some.inj e9)) (fun j e => by cases e; exact Nat.le_trans hN lo8)
      have x17 := SG.blk s192 x17 (fun e9 => ne21 (Option.some.inj e9).symm)
      have x48 := SG.blk s192 x48 (fun e9 => ne44 (Option.some.inj e9).symm)
      have c194 := (SG.fr (B := B) c187 s192 (fun kq e => .inr (by cases e; exact lo8)))
      refine h12 _ _ ?_
      refine wp_ret ?_
      try simp only [Exit.then]
      refine retC rfl rfl (by kernel_rfl) (by kernel_rfl) x191 ?_
      exact ⟨_, _, rfl, ⟨bnd_of (-1) 1000001 hx23 (by decide), ⟨by omega, by omega⟩⟩, Cur.mono x149 (by omega), c194⟩

set_option maxRecDepth 100000 in
set_option maxHeartbeats 8000000 in
theorem unit_any (B N k : Nat)  (w : World) (hc : Cur w B N k) (hk : k ≤ 900000000000)  :
    Calls Tryd.prog 65 #[.pointer (some ⟨B, 0, none⟩)] w fun e w' => ∃ x, e = .returned (.int .i64 x) ∧ (0 ≤ x ∧ x ≤ 5) ∧ Cur w' B N (k + 4) ∧ w.grownBy w' (some B) := by
  have hN := Cur.hN hc
  go_enter Tryd.func65, Tryd.ntmps65
  refine wp_seq_k (fun K1 h1 => ?_)
  refine W.region_quiet [(0, false)] (by kernel_rfl) ?_
  refine W.as (v := .int .i64 0) (h := ?_)
  refine W.endF 11 [(0, .pointer (some ⟨B, 0, none⟩)), (2, .int .i64 0)] (fun U1 => ?_)
  refine h1 _ _ ?_
  refine wp_seq_k (fun K2 h2 => ?_)
  refine W.region_plain (row := (some B)) [(0, false), (1, true), (2, false), (3, true), (4, false), (5, false), (6, false), (7, true), (8, false)] (by kernel_rfl) ?_
  have s2 := SG.self w (some B)
  refine F.mv (v := .pointer (some ⟨B, 0, none⟩)) (h := ?_)
  refine W.sn (fun b => .slice (some ⟨b, 0, none⟩) 6 6) #[.int .i64 1, .int .i64 2, .int .i64 3, .int .i64 4, .int .i64 0, .int .i64 5] 3 s2 rfl (by kernel_rfl) rfl (fun _ => by kernel_rfl) (fun b3 w4 hb5 k6 x7 s8 => ?_)
  refine F.nx ?_
  have lo9 : w.heap.size ≤ b3 := Nat.le_trans ((SG.fr (B := B) (World.grownBy.refl _ _) s2 (fun kq e => .inl (by cases e; rfl)))).size (Nat.le_of_eq hb5)
  have ne10 : B ≠ b3 := Nat.ne_of_lt (Nat.lt_of_lt_of_eq (Cur.lt hc) hb5)
  have hc := Cur.below hc k6
  refine F.mv (v := .pointer (some ⟨B, 0, none⟩)) (h := ?_)
  refine W.sc (vs := [.pointer (some ⟨B, 0, none⟩), .int .i64 24]) rfl rfl (by kernel_rfl) (by kernel_rfl) (by kernel_rfl) rfl (pick_nat B N k 24 _ hc (by omega) (by omega)) ?_
  rintro e w14 ⟨x11, rfl, hx12, x16, g15⟩
  have s17 := SG.of_grown s8 g15 (.inl rfl)
  refine ⟨_, rfl, s17, ?_⟩
  refine F.nx ?_
  have x7 := (g15.block _ (blk_lt x7) (fun e9 => ne10 (Option.some.inj e9).symm)).trans x7
  refine F.q (v := .int .i64 ((x11 / 11 : Nat) : Int)) (hr := (r_quoK (k := .i64) (m := ((x11 : Nat) : Int)) (n := 11) (z := ((x11 / 11 : Nat) : Int)) rfl (ev_any (by kernel_rfl)) (ev_any (by kernel_rfl)) (by omega) (by rw [show Int.tdiv ((x11 : Nat) : Int) 11 = ((x11 / 11 : Nat) : Int) from rfl]; exact wrap_i64 (by omega) (by omega)))) (h := ?_)
  refine F.q (v := .int .i64 ((4 + x11 / 11 : Nat) : Int)) (hr := (r_add (m := 4) (n := ((x11 / 11 : Nat) : Int)) (z := ((4 + x11 / 11 : Nat) : Int)) rfl (ev_any (by kernel_rfl)) (ev_any (by kernel_rfl)) (by omega) (by omega))) (h := ?_)
  refine F.q (v := .slice (some ⟨b3, 0, none⟩) (4 + x11 / 11) 6) (hr := (r_sliceTo (A := (some ⟨b3, 0, none⟩)) (n := 6) (c := 6) (k := 4 + x11 / 11) (size := 1) rfl (ev_any (by kernel_rfl)) (ev_any (by kernel_rfl)) (by kernel_rfl) (by omega))) (h := ?_)
  refine W.sc (vs := [.pointer (some ⟨B, 0, none⟩), .slice (some ⟨b3, 0, none⟩) (4 + x11 / 11) 6]) rfl rfl (by kernel_rfl) (by kernel_rfl) (by kernel_rfl) rfl (among_any B N (k + 2) (some ⟨b3, 0, none⟩) (4 + x11 / 11) 6 ([1, 2, 3, 4, 0, 5].take (4 + x11 / 11)) _ x16 (by omega) (Rd.toI (rd_blk (n := 6) (xs := intsV [1, 2, 3, 4, 0, 5]) x7 rfl rfl) (by omega)) (sp_ne (by have := ne10; omega)) (by omega)) ?_
  rintro e w21 ⟨x18, rfl, hx19, x23, g22⟩
  have s24 := SG.of_grown s17 g22 (.inl rfl)
  refine ⟨_, rfl, s24, ?_⟩
  refine F.nx ?_
  have x7 := (g22.block _ (blk_lt x7) (fun e9 => ne10 (Option.some.inj e9).symm)).trans x7
  refine F.as (v := .int .i64 x18) (h := ?_)
  refine F.endF [(0, .pointer (some ⟨B, 0, none⟩)), (2, .int .i64 x18)] (fun U25 => ?_)
  have c26 := (SG.fr (B := B) (World.grownBy.refl _ _) s24 (fun kq e => .inl (by cases e; rfl)))
  refine h2 _ _ ?_
  refine wp_ret ?_
  try simp only [Exit.then]
  refine ret1 (v := .int .i64 x18) rfl (by kernel_rfl) ?_
  exact ⟨_, rfl, bnd_of (0) 5 (List.mem_of_mem_take hx19) (by decide), Cur.mono x23 (by omega), c26⟩

set_option maxRecDepth 100000 in
set_option maxHeartbeats 8000000 in
theorem DrawDecimalText_any (A : Option Addr) (n c : Nat) (zs : List Int) (w : World) (hcode : Rd w 1 A n (bytesV zs)) (hz : ∀ z ∈ zs, 0 ≤ z ∧ z < 256) (hn : n ≤ 4611686018427387904) :
    Calls Tryd.prog 29 #[.slice A n c] w fun e w' => ∃ a b c : Int, e = .returned (.tuple #[.int .i64 a, .int .i64 b, .int .i64 c]) ∧ (-1 ≤ c ∧ c ≤ 5) ∧ Below w.heap.size w w' := by
  have hl := rd_bytes_len hcode
  go_enter Tryd.func29, Tryd.ntmps29
  refine wp_seq_k (fun K1 h1 => ?_)
  refine W.region_quiet [(0, false), (1, false), (2, false)] (by kernel_rfl) ?_
  refine W.as (v := .int .i64 0) (h := ?_)
  refine W.as (v := .int .i64 0) (h := ?_)
  refine W.as (v := .int .i64 0) (h := ?_)
  refine W.endF 33 [(0, .slice A n c), (2, .int .i64 0), (3, .int .i64 0), (4, .int .i64 0)] (fun U1 => ?_)
  refine h1 _ _ ?_
  refine wp_seq_k (fun K2 h2 => ?_)
  refine W.region_plain (row := none) [(0, false), (1, false), (2, true), (3, false)] (by kernel_rfl) ?_
  have s2 := SG.self w none
  refine F.mv (v := .slice A n c) (h := ?_)
  refine F.q (v := .agg #[.slice A n c, .int .i64 0, .int .u64 0]) (hr := (r_build rfl (vs := [(0, .slice A n c)]) (by kernel_rfl) (by kernel_rfl))) (h := ?_)
  refine W.sn (fun b => .pointer (some ⟨b, 0, none⟩)) #[.slice A n c, .int .i64 0, .int .u64 0] 84 s2 rfl (by kernel_rfl) rfl (fun _ => by kernel_rfl) (fun b3 w4 hb5 k6 x7 s8 => ?_)
  refine F.nx ?_
  have lo9 : w.heap.size ≤ b3 := Nat.le_trans ((SG.belowR (Below.refl _ _) s2 (fun kq e => by cases e))).size (Nat.le_of_eq hb5)
  have x10 := Cur.new x7 hcode hz hn ((SG.belowR (Below.refl _ _) s8 (fun kq e => by cases e))) lo9
  have hN : w.heap.size ≤ w.heap.size := Nat.le_refl _
  refine F.as (v := .pointer (some ⟨b3, 0, none⟩)) (h := ?_)
  refine F.endF [(0, .slice A n c), (2, .int .i64 0), (3, .int .i64 0), (4, .int .i64 0), (5, .pointer (some ⟨b3, 0, none⟩))] (fun U11 => ?_)
  have c12 := (SG.belowR (Below.refl _ _) s8 (fun kq e => by cases e))
  refine h2 _ _ ?_
  refine wp_seq_k (fun K3 h3 => ?_)
  refine W.region_plain (row := (some b3)) [(0, false), (1, true), (2, false), (3, true), (4, false), (5, false), (6, false), (7, true), (8, false), (9, true), (10, false), (11, true), (12, false), (13, false), (14, false), (15, true), (16, false), (17, true), (18, false), (19, true), (20, false), (21, false), (22, false), (23, true), (24, false), (25, false), (26, false)] (by kernel_rfl) ?_
  have s13 := SG.self w4 (some b3)
  refine F.mv (v := .pointer (some ⟨b3, 0, none⟩)) (h := ?_)
  refine W.sn (fun b => .slice (some ⟨b, 0, none⟩) 9 9) #[.int .i64 0, .int .i64 1, .int .i64 5, .int .i64 10, .int .i64 999, .int .i64 1995, .int .i64 1000000000000, .int .i64 (-1), .int .i64 1000000000001] 3 s13 rfl (by kernel_rfl) rfl (fun _ => by kernel_rfl) (fun b14 w15 hb16 k17 x18 s19 => ?_)
  refine F.nx ?_
  have lo20 : w.heap.size ≤ b14 := Nat.le_trans ((SG.belowR c12 s13 (fun kq e => by cases e; exact lo9))).size (Nat.le_of_eq hb16)
  have ne21 : b3 ≠ b14 := Nat.ne_of_lt (Nat.lt_of_lt_of_eq (Cur.lt x10) hb16)
  have x10 := Cur.below x10 k17
  refine F.mv (v := .pointer (some ⟨b3, 0, none⟩)) (h := ?_)
  refine W.sc (vs := [.pointer (some ⟨b3, 0, none⟩), .int .i64 24]) rfl rfl (by kernel_rfl) (by kernel_rfl) (by kernel_rfl) rfl (pick_nat b3 w.heap.size 0 24 _ x10 (by omega) (by omega)) ?_
  rintro e w25 ⟨x22, rfl, hx23, x27, g26⟩
  have s28 := SG.of_grown s19 g26 (.inl rfl)
  refine ⟨_, rfl, s28, ?_⟩
  refine F.nx ?_
  have x18 := (g26.block _ (blk_lt x18) (fun e9 => ne21 (Option.some.inj e9).symm)).trans x18
  refine F.q (v := .int .i64 ((x22 / 11 : Nat) : Int)) (hr := (r_quoK (k := .i64) (m := ((x22 : Nat) : Int)) (n := 11) (z := ((x22 / 11 : Nat) : Int)) rfl (ev_any (by kernel_rfl)) (ev_any (by kernel_rfl)) (by omega) (by rw [show Int.tdiv ((x22 : Nat) : Int) 11 = ((x22 / 11 : Nat) : Int) from rfl]; exact wrap_i64 (by omega) (by omega)))) (h := ?_)
  refine F.q (v := .int .i64 ((7 + x22 / 11 : Nat) : Int)) (hr := (r_add (m := 7) (n := ((x22 / 11 : Nat) : Int)) (z := ((7 + x22 / 11 : Nat) : Int)) rfl (ev_any (by kernel_rfl)) (ev_any (by kernel_rfl)) (by omega) (by omega))) (h := ?_)
  refine F.q (v := .slice (some ⟨b14, 0, none⟩) (7 + x22 / 11) 9) (hr := (r_sliceTo (A := (some ⟨b14, 0, none⟩)) (n := 9) (c := 9) (k := 7 + x22 / 11) (size := 1) rfl (ev_any (by kernel_rfl)) (ev_any (by kernel_rfl)) (by kernel_rfl) (by omega))) (h := ?_)
  refine W.sc (vs := [.pointer (some ⟨b3, 0, none⟩), .slice (some ⟨b14, 0, none⟩) (7 + x22 / 11) 9]) rfl rfl (by kernel_rfl) (by kernel_rfl) (by kernel_rfl) rfl (among_any b3 w.heap.size (0 + 2) (some ⟨b14, 0, none⟩) (7 + x22 / 11) 9 ([0, 1, 5, 10, 999, 1995, 1000000000000, (-1), 1000000000001].take (7 + x22 / 11)) _ x27 (by omega) (Rd.toI (rd_blk (n := 9) (xs := intsV [0, 1, 5, 10, 999, 1995, 1000000000000, (-1), 1000000000001]) x18 rfl rfl) (by omega)) (sp_ne (by have := ne21; omega)) (by omega)) ?_
  rintro e w32 ⟨x29, rfl, hx30, x34, g33⟩
  have s35 := SG.of_grown s28 g33 (.inl rfl)
  refine ⟨_, rfl, s35, ?_⟩
  refine F.nx ?_
  have x18 := (g33.block _ (blk_lt x18) (fun e9 => ne21 (Option.some.inj e9).symm)).trans x18
  refine F.mv (v := .pointer (some ⟨b3, 0, none⟩)) (h := ?_)
  refine W.sn (fun b => .slice (some ⟨b, 0, none⟩) 8 8) #[.int .i64 1, .int .i64 2, .int .i64 3, .int .i64 7, .int .i64 1000, .int .i64 1000000, .int .i64 0, .int .i64 1000001] 3 s35 rfl (by kernel_rfl) rfl (fun _ => by kernel_rfl) (fun b36 w37 hb38 k39 x40 s41 => ?_)
  refine F.nx ?_
  have lo42 : w.heap.size ≤ b36 := Nat.le_trans ((SG.belowR c12 s35 (fun kq e => by cases e; exact lo9))).size (Nat.le_of_eq hb38)
  have ne43 : b3 ≠ b36 := Nat.ne_of_lt (Nat.lt_of_lt_of_eq (Cur.lt x34) hb38)
  have ne44 : b14 ≠ b36 := Nat.ne_of_lt (Nat.lt_of_lt_of_eq (blk_lt x18) hb38)
  have x34 := Cur.below x34 k39
  have x18 := (k39.block _ (blk_lt x18)).trans x18
  refine F.mv (v := .pointer (some ⟨b3, 0, none⟩)) (h := ?_)
  refine W.sc (vs := [.pointer (some ⟨b3, 0, none⟩), .int .i64 24]) rfl rfl (by kernel_rfl) (by kernel_rfl) (by kernel_rfl) rfl (pick_nat b3 w.heap.size ((0 + 2) + 2) 24 _ x34 (by omega) (by omega)) ?_
  rintro e w48 ⟨x45, rfl, hx46, x50, g49⟩
  have s51 := SG.of_grown s41 g49 (.inl rfl)
  refine ⟨_, rfl, s51, ?_⟩
  refine F.nx ?_
  have x18 := (g49.block _ (blk_lt x18) (fun e9 => ne21 (Option.some.inj e9).symm)).trans x18
  have x40 := (g49.block _ (blk_lt x40) (fun e9 => ne43 (Option.some.inj e9).symm)).trans x40
  refine F.q (v := .int .i64 ((x45 / 11 : Nat) : Int)) (hr := (r_quoK (k := .i64) (m := ((x45 : Nat) : Int)) (n := 11) (z := ((x45 / 11 : Nat) : Int)) rfl (ev_any (by kernel_rfl)) (ev_any (by kernel_rfl)) (by omega) (by rw [show Int.tdiv ((x45 : Nat) : Int) 11 = ((x45 / 11 : Nat) : Int) from rfl]; exact wrap_i64 (by omega) (by omega)))) (h := ?_)
  refine F.q (v := .int .i64 ((6 + x45 / 11 : Nat) : Int)) (hr := (r_add (m := 6) (n := ((x45 / 11 : Nat) : Int)) (z := ((6 + x45 / 11 : Nat) : Int)) rfl (ev_any (by kernel_rfl)) (ev_any (by kernel_rfl)) (by omega) (by omega))) (h := ?_)
  refine F.q (v := .slice (some ⟨b36, 0, none⟩) (6 + x45 / 11) 8) (hr := (r_sliceTo (A := (some ⟨b36, 0, none⟩)) (n := 8) (c := 8) (k := 6 + x45 / 11) (size := 1) rfl (ev_any (by kernel_rfl)) (ev_any (by kernel_rfl)) (by kernel_rfl) (by omega))) (h := ?_)
  refine W.sc (vs := [.pointer (some ⟨b3, 0, none⟩), .slice (some ⟨b36, 0, none⟩) (6 + x45 / 11) 8]) rfl rfl (by kernel_rfl) (by kernel_rfl) (by kernel_rfl) rfl (among_any b3 w.heap.size (((0 + 2) + 2) + 2) (some ⟨b36, 0, none⟩) (6 + x45 / 11) 8 ([1, 2, 3, 7, 1000, 1000000, 0, 1000001].take (6 + x45 / 11)) _ x50 (by omega) (Rd.toI (rd_blk (n := 8) (xs := intsV [1, 2, 3, 7, 1000, 1000000, 0, 1000001]) x40 rfl rfl) (by omega)) (sp_ne (by have := ne43; omega)) (by omega)) ?_
  rintro e w55 ⟨x52, rfl, hx53, x57, g56⟩
  have s58 := SG.of_grown s51 g56 (.inl rfl)
  refine ⟨_, rfl, s58, ?_⟩
  refine F.nx ?_
  have x18 := (g56.block _ (blk_lt x18) (fun e9 => ne21 (Option.some.inj e9).symm)).trans x18
  have x40 := (g56.block _ (blk_lt x40) (fun e9 => ne43 (Option.some.inj e9).symm)).trans x40
  refine F.mv (v := .pointer (some ⟨b3, 0, none⟩)) (h := ?_)
  refine W.sn (fun b => .slice (some ⟨b, 0, none⟩) 6 6) #[.int .i64 0, .int .i64 1, .int .i64 2, .int .i64 4, .int .i64 (-1), .int .i64 5] 3 s58 rfl (by kernel_rfl) rfl (fun _ => by kernel_rfl) (fun b59 w60 hb61 k62 x63 s64 => ?_)
  refine F.nx ?_
  have lo65 : w.heap.size ≤ b59 := Nat.le_trans ((SG.belowR c12 s58 (fun kq e => by cases e; exact lo9))).size (Nat.le_of_eq hb61)
  have ne66 : b3 ≠ b59 := Nat.ne_of_lt (Nat.lt_of_lt_of_eq (Cur.lt x57) hb61)
  have ne67 : b14 ≠ b59 := Nat.ne_of_lt (Nat.lt_of_lt_of_eq (blk_lt x18) hb61)
  have ne68 : b36 ≠ b59 := Nat.ne_of_lt (Nat.lt_of_lt_of_eq (blk_lt x40) hb61)
  have x57 := Cur.below x57 k62
  have x18 := (k62.block _ (blk_lt x18)).trans x18
  have x40 := (k62.block _ (blk_lt x40)).trans x40
  refine F.mv (v := .pointer (some ⟨b3, 0, none⟩)) (h := ?_)
  refine W.sc (vs := [.pointer (some ⟨b3, 0, none⟩), .int .i64 24]) rfl rfl (by kernel_rfl) (by kernel_rfl) (by kernel_rfl) rfl (pick_nat b3 w.heap.size ((((0 + 2) + 2) + 2) + 2) 24 _ x57 (by omega) (by omega)) ?_
  rintro e w72 ⟨x69, rfl, hx70, x74, g73⟩
  have s75 := SG.of_grown s64 g73 (.inl rfl)
  refine ⟨_, rfl, s75, ?_⟩
  refine F.nx ?_
  have x18 := (g73.block _ (blk_lt x18) (fun e9 => ne21 (Option.some.inj e9).symm)).trans x18
  have x40 := (g73.block _ (blk_lt x40) (fun e9 => ne43 (Option.some.inj e9).symm)).trans x40
  have x63 := (g73.block _ (blk_lt x63) (fun e9 => ne66 (Option.some.inj e9).symm)).trans x63
  refine F.q (v := .int .i64 ((x69 / 11 : Nat) : Int)) (hr := (r_quoK (k := .i64) (m := ((x69 : Nat) : Int)) (n := 11) (z := ((x69 / 11 : Nat) : Int)) rfl (ev_any (by kernel_rfl)) (ev_any (by kernel_rfl)) (by omega) (by rw [show Int.tdiv ((x69 : Nat) : Int) 11 = ((x69 / 11 : Nat) : Int) from rfl]; exact wrap_i64 (by omega) (by omega)))) (h := ?_)
  refine F.q (v := .int .i64 ((4 + x69 / 11 : Nat) : Int)) (hr := (r_add (m := 4) (n := ((x69 / 11 : Nat) : Int)) (z := ((4 + x69 / 11 : Nat) : Int)) rfl (ev_any (by kernel_rfl)) (ev_any (by kernel_rfl)) (by omega) (by omega))) (h := ?_)
  refine F.q (v := .slice (some ⟨b59, 0, none⟩) (4 + x69 / 11) 6) (hr := (r_sliceTo (A := (some ⟨b59, 0, none⟩)) (n := 6) (c := 6) (k := 4 + x69 / 11) (size := 1) rfl (ev_any (by kernel_rfl)) (ev_any (by kernel_rfl)) (by kernel_rfl) (by omega))) (h := ?_)
  refine W.sc (vs := [.pointer (some ⟨b3, 0, none⟩), .slice (some ⟨b59, 0, none⟩) (4 + x69 / 11) 6]) rfl rfl (by kernel_rfl) (by kernel_rfl) (by kernel_rfl) rfl (among_any b3 w.heap.size (((((0 + 2) + 2) + 2) + 2) + 2) (some ⟨b59, 0, none⟩) (4 + x69 / 11) 6 ([0, 1, 2, 4, (-1), 5].take (4 + x69 / 11)) _ x74 (by omega) (Rd.toI (rd_blk (n := 6) (xs := intsV [0, 1, 2, 4, (-1), 5]) x63 rfl rfl) (by omega)) (sp_ne (by have := ne66; omega)) (by omega)) ?_
  rintro e w79 ⟨x76, rfl, hx77, x81, g80⟩
  have s82 := SG.of_grown s75 g80 (.inl rfl)
  refine ⟨_, rfl, s82, ?_⟩
  refine F.nx ?_
  have x18 := (g80.block _ (blk_lt x18) (fun e9 => ne21 (Option.some.inj e9).symm)).trans x18
  have x40 := (g80.block _ (blk_lt x40) (fun e9 => ne43 (Option.some.inj e9).symm)).trans x40
  have x63 := (g80.block _ (blk_lt x63) (fun e9 => ne66 (Option.some.inj e9).symm)).trans x63
  refine F.as (v := .int .i64 x29) (h := ?_)
  refine F.as (v := .int .i64 x52) (h := ?_)
  refine F.as (v := .int .i64 x76) (h := ?_)
  refine F.endF [(0, .slice A n c), (2, .int .i64 x29), (3, .int .i64 x52), (4, .int .i64 x76), (5, .pointer (some ⟨b3, 0, none⟩))] (fun U83 => ?_)
  have c84 := (SG.belowR c12 s82 (fun kq e => by cases e; exact lo9))
  refine h3 _ _ ?_
  refine wp_ret ?_
  try simp only [Exit.then]
  refine ret3 (v := .int .i64 x29) (x := .int .i64 x52) (y := .int .i64 x76) rfl (by kernel_rfl) (by kernel_rfl) (by kernel_rfl) ?_
  exact ⟨_, _, _, rfl, bnd_of (-1) 5 (List.mem_of_mem_take hx77) (by decide), c84⟩

set_option maxRecDepth 100000 in
set_option maxHeartbeats 8000000 in
theorem DrawVolumeIn_any (A : Option Addr) (n c : Nat) (zs : List Int) (w : World) (hcode : Rd w 1 A n (bytesV zs)) (hz : ∀ z ∈ zs, 0 ≤ z ∧ z < 256) (hn : n ≤ 4611686018427387904) :
    Calls Tryd.prog 30 #[.slice A n c] w fun e w' => ∃ v u m : Int, e = .returned (.tuple #[.agg #[.int .i64 v, .int .i64 u], .int .i64 m]) ∧ (-1 ≤ m ∧ m ≤ 10001) ∧ Below w.heap.size w w' := by
  have hl := rd_bytes_len hcode
  go_enter Tryd.func30, Tryd.ntmps30
  refine wp_seq_k (fun K1 h1 => ?_)
  refine W.region_plain (row := none) [(0, true), (1, false)] (by kernel_rfl) ?_
  have s1 := SG.self w none
  refine W.sn (fun b => .pointer (some ⟨b, 0, none⟩)) #[.int .i64 0, .int .i64 0] 26 s1 rfl (by kernel_rfl) rfl (fun _ => by kernel_rfl) (fun b2 w3 hb4 k5 x6 s7 => ?_)
  have lo8 : w.heap.size ≤ b2 := Nat.le_trans ((SG.belowR (Below.refl _ _) s1 (fun kq e => by cases e))).size (Nat.le_of_eq hb4)
  refine W.as (v := .int .i64 0) (h := ?_)
  refine W.endF 20 [(0, .slice A n c), (2, .pointer (some ⟨b2, 0, none⟩)), (3, .int .i64 0)] (fun U9 => ?_)
  have c10 := (SG.belowR (Below.refl _ _) s7 (fun kq e => by cases e))
  refine h1 _ _ ?_
  refine wp_seq_k (fun K2 h2 => ?_)
  refine W.region_plain (row := none) [(0, false), (1, false), (2, true), (3, false)] (by kernel_rfl) ?_
  have s11 := SG.self w3 none
  refine F.mv (v := .slice A n c) (h := ?_)
  refine F.q (v := .agg #[.slice A n c, .int .i64 0, .int .u64 0]) (hr := (r_build rfl (vs := [(0, .slice A n c)]) (by kernel_rfl) (by kernel_rfl))) (h := ?_)
  refine W.sn (fun b => .pointer (some ⟨b, 0, none⟩)) #[.slice A n c, .int .i64 0, .int .u64 0] 84 s11 rfl (by kernel_rfl) rfl (fun _ => by kernel_rfl) (fun b12 w13 hb14 k15 x16 s17 => ?_)
  refine F.nx ?_
  have lo18 : w.heap.size ≤ b12 := Nat.le_trans ((SG.belowR c10 s11 (fun kq e => by cases e))).size (Nat.le_of_eq hb14)
  have ne19 : b2 ≠ b12 := Nat.ne_of_lt (Nat.lt_of_lt_of_eq (Nat.lt_of_lt_of_le (blk_lt x6) (s11).size) hb14)
  have x20 := Cur.new x16 hcode hz hn ((SG.belowR c10 s17 (fun kq e => by cases e))) lo18
  have hN : w.heap.size ≤ w.heap.size := Nat.le_refl _
  refine F.as (v := .pointer (some ⟨b12, 0, none⟩)) (h := ?_)
  refine F.endF [(0, .slice A n c), (2, .pointer (some ⟨b2, 0, none⟩)), (3, .int .i64 0), (4, .pointer (some ⟨b12, 0, none⟩))] (fun U21 => ?_)
  have x6 := SG.blk s17 x6 (Option.some_ne_none _)
  have c22 := (SG.belowR c10 s17 (fun kq e => by cases e))
  refine h2 _ _ ?_
  refine wp_seq_k (fun K3 h3 => ?_)
  refine W.region_plain (row := (some b12)) [(0, false), (1, true), (2, true), (3, true)] (by kernel_rfl) ?_
  have s23 := SG.self w13 (some b12)
  refine F.mv (v := .pointer (some ⟨b12, 0, none⟩)) (h := ?_)
  refine W.sc (vs := [.pointer (some ⟨b12, 0, none⟩)]) rfl rfl (by kernel_rfl) (by kernel_rfl) (by kernel_rfl) rfl (amount_any b12 w.heap.size 0  _ x20 (by omega) ) ?_
  rintro e w28 ⟨v24, u25, rfl, hx26, x30, g29⟩
  have s31 := SG.of_grown s23 g29 (.inl rfl)
  refine ⟨_, rfl, s31, ?_⟩
  refine F.nx ?_
  refine W.sn (fun b => .pointer (some ⟨b, 0, none⟩)) #[.int .i64 0, .int .i64 0] 26 s31 rfl (by kernel_rfl) rfl (fun _ => by kernel_rfl) (fun b32 w33 hb34 k35 x36 s37 => ?_)
  refine F.nx ?_
  have lo38 : w.heap.size ≤ b32 := Nat.le_trans ((SG.belowR c22 s31 (fun kq e => by cases e; exact lo18))).size (Nat.le_of_eq hb34)
  have ne39 : b2 ≠ b32 := Nat.ne_of_lt (Nat.lt_of_lt_of_eq (Nat.lt_of_lt_of_le (blk_lt x6) (s31).size) hb34)
  have ne40 : b12 ≠ b32 := Nat.ne_of_lt (Nat.lt_of_lt_of_eq (Cur.lt x30) hb34)
  have x30 := Cur.below x30 k35
  refine W.ss (v := .agg #[.int .i64 v24, .int .i64 u25]) (j := 0) (news := [.int .i64 v24, .int .i64 u25]) (cs' := #[.int .i64 v24, .int .i64 u25]) s37 rfl (by kernel_rfl) rfl rfl (by kernel_rfl) (by kernel_rfl) x36 (by kernel_rfl) (by kernel_rfl) (by simp) (by kernel_rfl) (by kernel_rfl) (.inr (Nat.le_trans (s31).size (Nat.le_of_eq hb34))) (fun w41 g42 x43 s44 => ?_)
  have x30 := Cur.grown x30 g42 (fun e9 => ne40 (Option.some.inj e9)) (fun j e => by cases e; exact Nat.le_trans hN lo38)
  refine F.endF [(0, .slice A n c), (2, .pointer (some ⟨b2, 0, none⟩)), (3, .int .i64 0), (4, .pointer (some ⟨b12, 0, none⟩)), (5, .pointer (some ⟨b32, 0, none⟩))] (fun U45 => ?_)
  have x6 := SG.blk s44 x6 (fun e9 => ne19 (Option.some.inj e9))
  have c46 := (SG.belowR c22 s44 (fun kq e => by cases e; exact lo18))
  refine h3 _ _ ?_
  refine wp_seq_k (fun K4 h4 => ?_)
  refine M.region_sch (row := [(some b12), (some b2)]) (Sch.app [(0, false), (1, false), (3, false)] (.br 2 4 (Sch.of [(4, true), (5, false), (6, false), (7, false), (8, true), (9, true), (10, false)]) (Sch.of [(5, false), (6, false), (2, true), (7, false), (8, true), (9, true), (10, false)]))) (by kernel_rfl) (by kernel_rfl) (fun _ d _ _ _ h => by cases d <;> exact h) (by kernel_rfl) (fun w47 e48 s49 => ?_)
  have x50 := Cur.heap x30 e48
  have x51 := (heap_same e48 x6)
  refine F.q (v := .agg #[.int .i64 v24, .int .i64 u25]) (hr := (r_load2 rfl (ev_any (by kernel_rfl)) (by kernel_rfl) (by kernel_rfl) (smS (blk_cell (j := 0) x43 (by kernel_rfl)) (ne2 (fun e9 => ne40 (Option.some.inj e9).symm) (fun e9 => ne39 (Option.some.inj e9).symm))) (smS (blk_cell (j := 1) x43 (by kernel_rfl)) (ne2 (fun e9 => ne40 (Option.some.inj e9).symm) (fun e9 => ne39 (Option.some.inj e9).symm))))) (h := ?_)
  refine F.mv (v := .pointer (some ⟨b12, 0, none⟩)) (h := ?_)
  refine F.mv (v := .pointer (some ⟨b12, 0, none⟩)) (h := ?_)
  refine W.sbr ?_ ?_
  · refine M.sn (fun b => .slice (some ⟨b, 0, none⟩) 8 8) #[.int .i64 0, .int .i64 1, .int .i64 7, .int .i64 60, .int .i64 1440, .int .i64 10000, .int .i64 (-1), .int .i64 10001] 3 s49 rfl (by kernel_rfl) rfl (fun _ => by kernel_rfl) (fun b52 w53 hb54 k55 x56 s57 => ?_)
    refine F.nx ?_
    have lo58 : w.heap.size ≤ b52 := Nat.le_trans ((SM.belowR c46 s49 (in2 (fun kq e => (by cases e; exact lo18)) (fun kq e => (by cases e; exact lo8))))).size (Nat.le_of_eq hb54)
    have ne59 : b2 ≠ b52 := Nat.ne_of_lt (Nat.lt_of_lt_of_eq (blk_lt x51) hb54)
    have ne60 : b12 ≠ b52 := Nat.ne_of_lt (Nat.lt_of_lt_of_eq (Cur.lt x50) hb54)
    have ne61 : b32 ≠ b52 := Nat.ne_of_lt (Nat.lt_of_lt_of_eq (Nat.lt_of_lt_of_le (blk_lt x43) (s49).size) hb54)
    have x51 := (k55.block _ (blk_lt x51)).trans x51
    have x50 := Cur.below x50 k55
    refine W.sc (vs := [.pointer (some ⟨b12, 0, none⟩), .int .i64 24]) rfl rfl (by kernel_rfl) (by kernel_rfl) (by kernel_rfl) rfl (pick_nat b12 w.heap.size (0 + 12) 24 _ x50 (by omega) (by omega)) ?_
    rintro e w65 ⟨x62, rfl, hx63, x67, g66⟩
    have s68 := SM.of_grown s57 g66 (.inl (by simp))
    refine ⟨_, rfl, s68, ?_⟩
    refine F.nx ?_
    have x51 := (g66.block _ (blk_lt x51) (fun e9 => ne19 (Option.some.inj e9))).trans x51
    have x56 := (g66.block _ (blk_lt x56) (fun e9 => ne60 (Option.some.inj e9).symm)).trans x56
    refine F.q (v := .int .i64 ((x62 / 11 : Nat) : Int)) (hr := (r_quoK (k := .i64) (m := ((x62 : Nat) : Int)) (n := 11) (z := ((x62 / 11 : Nat) : Int)) rfl (ev_any (by kernel_rfl)) (ev_any (by kernel_rfl)) (by omega) (by rw [show Int.tdiv ((x62 : Nat) : Int) 11 = ((x62 / 11 : Nat) : Int) from rfl]; exact wrap_i64 (by omega) (by omega)))) (h := ?_)
    refine F.q (v := .int .i64 ((6 + x62 / 11 : Nat) : Int)) (hr := (r_add (m := 6) (n := ((x62 / 11 : Nat) : Int)) (z := ((6 + x62 / 11 : Nat) : Int)) rfl (ev_any (by kernel_rfl)) (ev_any (by kernel_rfl)) (by omega) (by omega))) (h := ?_)
    refine F.q (v := .slice (some ⟨b52, 0, none⟩) (6 + x62 / 11) 8) (hr := (r_sliceTo (A := (some ⟨b52, 0, none⟩)) (n := 8) (c := 8) (k := 6 + x62 / 11) (size := 1) rfl (ev_any (by kernel_rfl)) (ev_any (by kernel_rfl)) (by kernel_rfl) (by omega))) (h := ?_)
    refine W.sc (vs := [.pointer (some ⟨b12, 0, none⟩), .slice (some ⟨b52, 0, none⟩) (6 + x62 / 11) 8]) rfl rfl (by kernel_rfl) (by kernel_rfl) (by kernel_rfl) rfl (among_any b12 w.heap.size ((0 + 12) + 2) (some ⟨b52, 0, none⟩) (6 + x62 / 11) 8 ([0, 1, 7, 60, 1440, 10000, (-1), 10001].take (6 + x62 / 11)) _ x67 (by omega) (Rd.toI (rd_blk (n := 8) (xs := intsV [0, 1, 7, 60, 1440, 10000, (-1), 10001]) x56 rfl rfl) (by omega)) (sp_ne (by have := ne60; omega)) (by omega)) ?_
    rintro e w72 ⟨x69, rfl, hx70, x74, g73⟩
    have s75 := SM.of_grown s68 g73 (.inl (by simp))
    refine ⟨_, rfl, s75, ?_⟩
    refine F.nx ?_
    have x51 := (g73.block _ (blk_lt x51) (fun e9 => ne19 (Option.some.inj e9))).trans x51
    have x56 := (g73.block _ (blk_lt x56) (fun e9 => ne60 (Option.some.inj e9).symm)).trans x56
    refine M.ss (v := .agg #[.int .i64 v24, .int .i64 u25]) (j := 0) (news := [.int .i64 v24, .int .i64 u25]) (cs' := #[.int .i64 v24, .int .i64 u25]) s75 rfl (by kernel_rfl) rfl rfl (by kernel_rfl) (by kernel_rfl) x51 (by kernel_rfl) (by kernel_rfl) (by simp) (by kernel_rfl) (by kernel_rfl) (.inl (by simp)) (fun w76 g77 x78 s79 => ?_)
    have x74 := Cur.grown x74 g77 (fun e9 => ne19 (Option.some.inj e9).symm) (fun j e => by cases e; exact Nat.le_trans hN lo8)
    have x56 := (g77.block _ (blk_lt x56) (fun e9 => ne59 (Option.some.inj e9).symm)).trans x56
    refine F.as (v := .int .i64 x69) (h := ?_)
    refine F.endF [(0, .slice A n c), (2, .pointer (some ⟨b2, 0, none⟩)), (3, .int .i64 x69), (4, .pointer (some ⟨b12, 0, none⟩)), (5, .pointer (some ⟨b32, 0, none⟩))] (fun U80 => ?_)
    have x43 := SM.blk s79 x43 (ne2 (fun e9 => ne40 (Option.some.inj e9).symm) (fun e9 => ne39 (Option.some.inj e9).symm))
    have c81 := (SM.belowR c46 s79 (in2 (fun kq e => (by cases e; exact lo18)) (fun kq e => (by cases e; exact lo8))))
    refine h4 _ _ ?_
    refine wp_ret ?_
    try simp only [Exit.then]
    refine retCT (x := .int .i64 x69) rfl (by kernel_rfl) (by kernel_rfl) (by kernel_rfl) (by kernel_rfl) x78 ?_
    exact ⟨_, _, _, rfl, bnd_of (-1) 10001 (List.mem_of_mem_take hx70) (by decide), c81⟩
  · refine W.sc (vs := [.pointer (some ⟨b12, 0, none⟩), .int .i64 24]) rfl rfl (by kernel_rfl) (by kernel_rfl) (by kernel_rfl) rfl (pick_nat b12 w.heap.size (0 + 12) 24 _ x50 (by omega) (by omega)) ?_
    rintro e w85 ⟨x82, rfl, hx83, x87, g86⟩
    have s88 := SM.of_grown s49 g86 (.inl (by simp))
    refine ⟨_, rfl, s88, ?_⟩
    refine F.nx ?_
    have x51 := (g86.block _ (blk_lt x51) (fun e9 => ne19 (Option.some.inj e9))).trans x51
    refine F.q (v := .int .i64 ((x82 / 11 : Nat) : Int)) (hr := (r_quoK (k := .i64) (m := ((x82 : Nat) : Int)) (n := 11) (z := ((x82 / 11 : Nat) : Int)) rfl (ev_any (by kernel_rfl)) (ev_any (by kernel_rfl)) (by omega) (by rw [show Int.tdiv ((x82 : Nat) : Int) 11 = ((x82 / 11 : Nat) : Int) from rfl]; exact wrap_i64 (by omega) (by omega)))) (h := ?_)
    refine F.q (v := .int .i64 ((6 + x82 / 11 : Nat) : Int)) (hr := (r_add (m := 6) (n := ((x82 / 11 : Nat) : Int)) (z := ((6 + x82 / 11 : Nat) : Int)) rfl (ev_any (by kernel_rfl)) (ev_any (by kernel_rfl)) (by omega) (by omega))) (h := ?_)
    refine M.sn (fun b => .slice (some ⟨b, 0, none⟩) 8 8) #[.int .i64 0, .int .i64 1, .int .i64 7, .int .i64 60, .int .i64 1440, .int .i64 10000, .int .i64 (-1), .int .i64 10001] 3 s88 rfl (by kernel_rfl) rfl (fun _ => by kernel_rfl) (fun b89 w90 hb91 k92 x93 s94 => ?_)
    refine F.nx ?_
    have lo95 : w.heap.size ≤ b89 := Nat.le_trans ((SM.belowR c46 s88 (in2 (fun kq e => (by cases e; exact lo18)) (fun kq e => (by cases e; exact lo8))))).size (Nat.le_of_eq hb91)
    have ne96 : b2 ≠ b89 := Nat.ne_of_lt (Nat.lt_of_lt_of_eq (blk_lt x51) hb91)
    have ne97 : b12 ≠ b89 := Nat.ne_of_lt (Nat.lt_of_lt_of_eq (Cur.lt x87) hb91)
    have ne98 : b32 ≠ b89 := Nat.ne_of_lt (Nat.lt_of_lt_of_eq (Nat.lt_of_lt_of_le (blk_lt x43) (s88).size) hb91)
    have x51 := (k92.block _ (blk_lt x51)).trans x51
    have x87 := Cur.below x87 k92
    refine F.q (v := .slice (some ⟨b89, 0, none⟩) (6 + x82 / 11) 8) (hr := (r_sliceTo (A := (some ⟨b89, 0, none⟩)) (n := 8) (c := 8) (k := 6 + x82 / 11) (size := 1) rfl (ev_any (by kernel_rfl)) (ev_any (by kernel_rfl)) (by kernel_rfl) (by omega))) (h := ?_)
    refine W.sc (vs := [.pointer (some ⟨b12, 0, none⟩), .slice (some ⟨b89, 0, none⟩) (6 + x82 / 11) 8]) rfl rfl (by kernel_rfl) (by kernel_rfl) (by kernel_rfl) rfl (among_any b12 w.heap.size ((0 + 12) + 2) (some ⟨b89, 0, none⟩) (6 + x82 / 11) 8 ([0, 1, 7, 60, 1440, 10000, (-1), 10001].take (6 + x82 / 11)) _ x87 (by omega) (Rd.toI (rd_blk (n := 8) (xs := intsV [0, 1, 7, 60, 1440, 10000, (-1), 10001]) x93 rfl rfl) (by omega)) (sp_ne (by have := ne97; omega)) (by omega)) ?_
    rintro e w102 ⟨x99, rfl, hx100, x104, g103⟩
    have s105 := SM.of_grown s94 g103 (.inl (by simp))
    refine ⟨_, rfl, s105, ?_⟩
    refine F.nx ?_
    have x51 := (g103.block _ (blk_lt x51) (fun e9 => ne19 (Option.some.inj e9))).trans x51
    have x93 := (g103.block _ (blk_lt x93) (fun e9 => ne97 (Option.some.inj e9).symm)).trans x93
    refine M.ss (v := .agg #[.int .i64 v24, .int .i64 u25]) (j := 0) (news := [.int .i64 v24, .int .i64 u25]) (cs' := #[.int .i64 v24, .int .i64 u25]) s105 rfl (by kernel_rfl) rfl rfl (by kernel_rfl) (by kernel_rfl) x51 (by kernel_rfl) (by kernel_rfl) (by simp) (by kernel_rfl) (by kernel_rfl) (.inl (by simp)) (fun w106 g107 x108 s109 => ?_)
    have x104 := Cur.grown x104 g107 (fun e9 => ne19 (Option.some.inj e9).symm) (fun j e => by cases e; exact Nat.le_trans hN lo8)
    have x93 := (g107.block _ (blk_lt x93) (fun e9 => ne96 (Option.some.inj e9).symm)).trans x93
    refine F.as (v := .int .i64 x99) (h := ?_)
    refine F.endF [(0, .slice A n c), (2, .pointer (some ⟨b2, 0, none⟩)), (3, .int .i64 x99), (4, .pointer (some ⟨b12, 0, none⟩)), (5, .pointer (some ⟨b32, 0, none⟩))] (fun U110 => ?_)
    have x43 := SM.blk s109 x43 (ne2 (fun e9 => ne40 (Option.some.inj e9).symm) (fun e9 => ne39 (Option.some.inj e9).symm))
    have c111 := (SM.belowR c46 s109 (in2 (fun kq e => (by cases e; exact lo18)) (fun kq e => (by cases e; exact lo8))))
    refine h4 _ _ ?_
    refine wp_ret ?_
    try simp only [Exit.then]
    refine retCT (x := .int .i64 x99) rfl (by kernel_rfl) (by kernel_rfl) (by kernel_rfl) (by kernel_rfl) x108 ?_
    exact ⟨_, _, _, rfl, bnd_of (-1) 10001 (List.mem_of_mem_take hx100) (by decide), c111⟩

set_option maxRecDepth 100000 in
set_option maxHeartbeats 8000000 in
theorem DrawBarsOf_any (A : Option Addr) (n c : Nat) (zs : List Int) (w : World) (hcode : Rd w 1 A n (bytesV zs)) (hz : ∀ z ∈ zs, 0 ≤ z ∧ z < 256) (hn : n ≤ 4611686018427387904) :
    Calls Tryd.prog 31 #[.slice A n c] w fun e w' => ∃ m : Int, e = .returned (.int .i64 m) ∧ (-1 ≤ m ∧ m ≤ 1001) ∧ Below w.heap.size w w' := by
  have hl := rd_bytes_len hcode
  go_enter Tryd.func31, Tryd.ntmps31
  refine wp_seq_k (fun K1 h1 => ?_)
  refine W.region_quiet [(0, false)] (by kernel_rfl) ?_
  refine W.as (v := .int .i64 0) (h := ?_)
  refine W.endF 10 [(0, .slice A n c), (2, .int .i64 0)] (fun U1 => ?_)
  refine h1 _ _ ?_
  refine wp_seq_k (fun K2 h2 => ?_)
  refine W.region_plain (row := none) [(0, false), (1, false), (2, true), (3, false)] (by kernel_rfl) ?_
  have s2 := SG.self w none
  refine F.mv (v := .slice A n c) (h := ?_)
  refine F.q (v := .agg #[.slice A n c, .int .i64 0, .int .u64 0]) (hr := (r_build rfl (vs := [(0, .slice A n c)]) (by kernel_rfl) (by kernel_rfl))) (h := ?_)
  refine W.sn (fun b => .pointer (some ⟨b, 0, none⟩)) #[.slice A n c, .int .i64 0, .int .u64 0] 84 s2 rfl (by kernel_rfl) rfl (fun _ => by kernel_rfl) (fun b3 w4 hb5 k6 x7 s8 => ?_)
  refine F.nx ?_
  have lo9 : w.heap.size ≤ b3 := Nat.le_trans ((SG.belowR (Below.refl _ _) s2 (fun kq e => by cases e))).size (Nat.le_of_eq hb5)
  have x10 := Cur.new x7 hcode hz hn ((SG.belowR (Below.refl _ _) s8 (fun kq e => by cases e))) lo9
  have hN : w.heap.size ≤ w.heap.size := Nat.le_refl _
  refine F.as (v := .pointer (some ⟨b3, 0, none⟩)) (h := ?_)
  refine F.endF [(0, .slice A n c), (2, .int .i64 0), (3, .pointer (some ⟨b3, 0, none⟩))] (fun U11 => ?_)
  have c12 := (SG.belowR (Below.refl _ _) s8 (fun kq e => by cases e))
  refine h2 _ _ ?_
  refine wp_seq_k (fun K3 h3 => ?_)
  refine W.region_plain (row := (some b3)) [(0, false), (1, true), (2, true), (3, false)] (by kernel_rfl) ?_
  have s13 := SG.self w4 (some b3)
  refine F.mv (v := .pointer (some ⟨b3, 0, none⟩)) (h := ?_)
  refine W.sn (fun b => .slice (some ⟨b, 0, none⟩) 9 9) #[.int .i64 0, .int .i64 1, .int .i64 10, .int .i64 51, .int .i64 102, .int .i64 999, .int .i64 1000, .int .i64 (-1), .int .i64 1001] 3 s13 rfl (by kernel_rfl) rfl (fun _ => by kernel_rfl) (fun b14 w15 hb16 k17 x18 s19 => ?_)
  refine F.nx ?_
  have lo20 : w.heap.size ≤ b14 := Nat.le_trans ((SG.belowR c12 s13 (fun kq e => by cases e; exact lo9))).size (Nat.le_of_eq hb16)
  have ne21 : b3 ≠ b14 := Nat.ne_of_lt (Nat.lt_of_lt_of_eq (Cur.lt x10) hb16)
  have x10 := Cur.below x10 k17
  refine W.sc (vs := [.pointer (some ⟨b3, 0, none⟩), .slice (some ⟨b14, 0, none⟩) 9 9]) rfl rfl (by kernel_rfl) (by kernel_rfl) (by kernel_rfl) rfl (among_any b3 w.heap.size 0 (some ⟨b14, 0, none⟩) 9 9 [0, 1, 10, 51, 102, 999, 1000, (-1), 1001] _ x10 (by omega) (rd_blk x18 rfl rfl) (sp_ne (by have := ne21; omega)) (by omega)) ?_
  rintro e w25 ⟨x22, rfl, hx23, x27, g26⟩
  have s28 := SG.of_grown s19 g26 (.inl rfl)
  refine ⟨_, rfl, s28, ?_⟩
  refine F.nx ?_
  have x18 := (g26.block _ (blk_lt x18) (fun e9 => ne21 (Option.some.inj e9).symm)).trans x18
  refine F.as (v := .int .i64 x22) (h := ?_)
  refine F.endF [(0, .slice A n c), (2, .int .i64 x22), (3, .pointer (some ⟨b3, 0, none⟩))] (fun U29 => ?_)
  have c30 := (SG.belowR c12 s28 (fun kq e => by cases e; exact lo9))
  refine h3 _ _ ?_
  refine wp_ret ?_
  try simp only [Exit.then]
  refine ret1 (v := .int .i64 x22) rfl (by kernel_rfl) ?_
  exact ⟨_, rfl, bnd_of (-1) 1001 hx23 (by decide), c30⟩

end Go.Proofs.YtlkphjlabmnjiaaDoor
