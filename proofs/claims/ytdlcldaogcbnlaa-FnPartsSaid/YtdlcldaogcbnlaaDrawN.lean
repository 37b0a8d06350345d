/- Drawn networks. -/
import Derived.Test.YtdlcldaogcbnlaaCur
import Derived.Test.YtdlcldaogcbnlaaRes2
import Derived.Test.YtdlcldaogcbnlaaNetC
import Derived.Test.YtdlcldaogcbnlaaJoinK
import Derived.Test.YtdlcldaogcbnlaaSch8
import Derived.Test.YtdlcldaogcbnlaaFr
namespace Go.Proofs.Ytdlcldaogcbnlaa
open Go.RowKit
set_option linter.unusedVariables false
set_option linter.unusedSimpArgs false

/-- A drawn pipe's numbers are small. -/
def smP (p : Pp) : Prop := (-1000 ≤ p.id ∧ p.id ≤ 1000) ∧ (-1000 ≤ p.fr ∧ p.fr ≤ 1000) ∧ (-1000 ≤ p.to ∧ p.to ≤ 1000) ∧ (-1000 ≤ p.sz ∧ p.sz ≤ 1000)
theorem sm_mk {a b c d : Int} (h : (-1000 ≤ a ∧ a ≤ 1000) ∧ (-1000 ≤ b ∧ b ≤ 1000) ∧ (-1000 ≤ c ∧ c ≤ 1000) ∧ (-1000 ≤ d ∧ d ≤ 1000)) : smP ⟨a, b, c, d⟩ := h
theorem sm_nil : ∀ p, p ∈ ([] : List Pp) → smP p := fun p h => by cases h
theorem sm_snoc {ps : List Pp} {x : Pp} (h : ∀ p, p ∈ ps → smP p) (hx : smP x) : ∀ p, p ∈ ps ++ [x] → smP p := fun p hp => by
  rcases List.mem_append.1 hp with h1 | h1
  · exact h p h1
  · obtain rfl : p = x := by simpa using h1
    exact hx
theorem snoc_len {ps : List Pp} {x : Pp} : (ps ++ [x]).length = ps.length + 1 := by simp
theorem bnd_of {zs : List Int} {x : Int} (lo hi : Int) (hx : x ∈ zs) (h : zs.all (fun z => decide (lo ≤ z) && decide (z ≤ hi)) = true) : lo ≤ x ∧ x ≤ hi := by
  have h1 := List.all_eq_true.1 h x hx
  simpa using h1
def mostI (a b : Int) : Int := if a > b then a else b
theorem mostI_is (a b : Int) : mostI a b = a ∨ mostI a b = b := by unfold mostI; split <;> simp
/-- A drawn network: few pipes, small numbers. -/
def smD (k : Nat) (m : Int) (ps : List Pp) : Prop := (-1000 ≤ m ∧ m ≤ 1000) ∧ ps.length ≤ k ∧ ∀ p, p ∈ ps → smP p

set_option maxRecDepth 100000 in
set_option maxHeartbeats 8000000 in
theorem l1Most_any (a b : Int) (w : World) :
    Calls Try.prog 67 #[.int .i64 a, .int .i64 b] w fun e w' => e = .returned (.int .i64 (mostI a b)) ∧ Below w.heap.size w w' := by
  go_enter Try.func67, Try.ntmps67
  refine wp_seq_k (fun K1 h1 => ?_)
  refine W.region_quiet [(0, false)] (by kernel_rfl) ?_
  refine W.as (v := .int .i64 0) (h := ?_)
  refine W.endF 10 [(0, .int .i64 a), (1, .int .i64 b), (4, .int .i64 0)] (fun U1 => ?_)
  refine h1 _ _ ?_
  refine wp_seq_k (fun K2 h2 => ?_)
  refine wp_seq_k (fun K3 h3 => ?_)
  refine W.region_quiet [(0, false), (1, false), (2, false)] (by kernel_rfl) ?_
  refine F.mv (v := .int .i64 a) (h := ?_)
  refine F.mv (v := .int .i64 b) (h := ?_)
  by_cases q2 : (a : Int) > (b : Int)
  · refine F.q (v := .bool true) (hr := (r_gtr (m := a) (n := b) rfl (ev_any (by kernel_rfl)) (ev_any (by kernel_rfl)) (decide_eq_true q2))) (h := ?_)
    refine F.endF [(0, .int .i64 a), (1, .int .i64 b), (4, .int .i64 0), (7, .bool true)] (fun U3 => ?_)
    refine h3 _ _ ?_
    refine wp_cond_true (by kernel_rfl) ?_
    refine wp_seq_k (fun K4 h4 => ?_)
    refine W.region_quiet [(0, false), (1, false)] (by kernel_rfl) ?_
    refine F.mv (v := .int .i64 a) (h := ?_)
    refine F.as (v := .int .i64 a) (h := ?_)
    refine F.endF [(0, .int .i64 a), (1, .int .i64 b), (4, .int .i64 a), (7, .bool true)] (fun U4 => ?_)
    refine h4 _ _ ?_
    refine wp_ret ?_
    try simp only [Exit.then]
    refine ret1 (v := .int .i64 a) rfl (by kernel_rfl) ?_
    exact ⟨by unfold mostI; rw [if_pos (by omega)], (Below.refl _ _)⟩
  · refine F.q (v := .bool false) (hr := (r_gtr (m := a) (n := b) rfl (ev_any (by kernel_rfl)) (ev_any (by kernel_rfl)) (decide_eq_false q2))) (h := ?_)
    refine F.endF [(0, .int .i64 a), (1, .int .i64 b), (4, .int .i64 0), (7, .bool false)] (fun U5 => ?_)
    refine h3 _ _ ?_
    refine wp_cond_false (by kernel_rfl) ?_
    refine wp_skip ?_
    refine h2 _ _ ?_
    refine wp_seq_k (fun K5 h5 => ?_)
    refine W.region_quiet [(0, false), (1, false)] (by kernel_rfl) ?_
    refine F.mv (v := .int .i64 b) (h := ?_)
    refine F.as (v := .int .i64 b) (h := ?_)
    refine F.endF [(0, .int .i64 a), (1, .int .i64 b), (4, .int .i64 b), (7, .bool false)] (fun U6 => ?_)
    refine h5 _ _ ?_
    refine wp_ret ?_
    try simp only [Exit.then]
    refine ret1 (v := .int .i64 b) rfl (by kernel_rfl) ?_
    exact ⟨by unfold mostI; rw [if_neg (by omega)], (Below.refl _ _)⟩

set_option maxRecDepth 100000 in
set_option maxHeartbeats 8000000 in
theorem network_any (B N k : Nat)  (w : World) (hc : Cur w B N k) (hk : k ≤ 800000000000)  :
    Calls Try.prog 64 #[.pointer (some ⟨B, 0, none⟩)] w fun e w' => ∃ (m : Int) (A' : Option Addr) (n' c' : Nat) (ps : List Pp), e = .returned (.agg #[.int .i64 m, .slice A' n' c']) ∧ (w'.ownsRow w.heap.size 51 4 (.slice A' n' c') n' (pipesV ps) ∧ smD 10 m ps) ∧ Cur w' B N (k + 300) ∧ w.grownBy w' (some B) := by
  have hN := Cur.hN hc
  go_enter Try.func64, Try.ntmps64
  refine wp_seq_k (fun K1 h1 => ?_)
  refine W.region_plain (row := none) [(0, true)] (by kernel_rfl) ?_
  have s1 := SG.self w none
  refine W.sn (fun b => .pointer (some ⟨b, 0, none⟩)) #[.int .i64 0, .slice none 0 0] 31 s1 rfl (by kernel_rfl) rfl (fun _ => by kernel_rfl) (fun b2 w3 hb4 k5 x6 s7 => ?_)
  have lo8 : w.heap.size ≤ b2 := Nat.le_trans ((SG.fr (B := B) (World.grownBy.refl _ _) s1 (fun kq e => by cases e))).size (Nat.le_of_eq hb4)
  have ne9 : B ≠ b2 := Nat.ne_of_lt (Nat.lt_of_lt_of_eq (Nat.lt_of_lt_of_le (Cur.lt hc) (s1).size) hb4)
  refine W.endF 97 [(0, .pointer (some ⟨B, 0, none⟩)), (2, .pointer (some ⟨b2, 0, none⟩))] (fun U10 => ?_)
  have hc := Cur.below hc (SG.below s7)
  have c11 := (SG.fr (B := B) (World.grownBy.refl _ _) s7 (fun kq e => by cases e))
  refine h1 _ _ ?_
  refine wp_seq_k (fun K2 h2 => ?_)
  refine W.region_plain (row := (some B)) [(0, false), (1, true), (2, false), (3, false), (4, true), (5, true)] (by kernel_rfl) ?_
  have s12 := SG.self w3 (some B)
  refine F.mv (v := .pointer (some ⟨B, 0, none⟩)) (h := ?_)
  refine W.sc (vs := [.pointer (some ⟨B, 0, none⟩), .int .i64 7]) rfl rfl (by kernel_rfl) (by kernel_rfl) (by kernel_rfl) rfl (pick_any B N k 7 _ hc (by omega) (by omega)) ?_
  rintro e w16 ⟨x13, rfl, hx14, x18, g17⟩
  have s19 := SG.of_grown s12 g17 (.inl rfl)
  refine ⟨_, rfl, s19, ?_⟩
  refine F.nx ?_
  refine F.q (v := .int .i64 (1 + x13)) (hr := (r_add (m := 1) (n := x13) (z := 1 + x13) rfl (ev_any (by kernel_rfl)) (ev_any (by kernel_rfl)) (rfl) (by omega))) (h := ?_)
  refine F.q (v := .agg #[.int .i64 (1 + x13), .slice none 0 0]) (hr := (r_build rfl (vs := [(0, .int .i64 (1 + x13))]) (by kernel_rfl) (by kernel_rfl))) (h := ?_)
  refine W.sn (fun b => .pointer (some ⟨b, 0, none⟩)) #[.int .i64 0, .slice none 0 0] 31 s19 rfl (by kernel_rfl) rfl (fun _ => by kernel_rfl) (fun b20 w21 hb22 k23 x24 s25 => ?_)
  refine F.nx ?_
  have lo26 : w.heap.size ≤ b20 := Nat.le_trans ((SG.fr (B := B) c11 s19 (fun kq e => .inl (by cases e; rfl)))).size (Nat.le_of_eq hb22)
  have ne27 : B ≠ b20 := Nat.ne_of_lt (Nat.lt_of_lt_of_eq (Cur.lt x18) hb22)
  have ne28 : b2 ≠ b20 := Nat.ne_of_lt (Nat.lt_of_lt_of_eq (Nat.lt_of_lt_of_le (blk_lt x6) (s19).size) hb22)
  have x18 := Cur.below x18 k23
  refine W.ss (v := .agg #[.int .i64 (1 + x13), .slice none 0 0]) (j := 0) (news := [.int .i64 (1 + x13), .slice none 0 0]) (cs' := #[.int .i64 (1 + x13), .slice none 0 0]) s25 rfl (by kernel_rfl) rfl rfl (by kernel_rfl) (by kernel_rfl) x24 (by kernel_rfl) (by kernel_rfl) (by simp) (by kernel_rfl) (by kernel_rfl) (.inr (Nat.le_trans (s19).size (Nat.le_of_eq hb22))) (fun w29 g30 x31 s32 => ?_)
  have x18 := Cur.grown x18 g30 (fun e9 => ne27 (Option.some.inj e9)) (fun j e => by cases e; exact Nat.le_trans hN lo26)
  refine F.endF [(0, .pointer (some ⟨B, 0, none⟩)), (2, .pointer (some ⟨b2, 0, none⟩)), (3, .pointer (some ⟨b20, 0, none⟩))] (fun U33 => ?_)
  have x6 := SG.blk s32 x6 (fun e9 => ne9 (Option.some.inj e9).symm)
  have c34 := (SG.fr (B := B) c11 s32 (fun kq e => .inl (by cases e; rfl)))
  refine h2 _ _ ?_
  refine wp_seq_k (fun K3 h3 => ?_)
  refine W.region_quiet [(0, false)] (by kernel_rfl) ?_
  refine F.as (v := .int .i64 0) (h := ?_)
  refine F.endF [(0, .pointer (some ⟨B, 0, none⟩)), (2, .pointer (some ⟨b2, 0, none⟩)), (3, .pointer (some ⟨b20, 0, none⟩)), (4, .int .i64 0)] (fun U35 => ?_)
  refine h3 _ _ ?_
  refine wp_seq_k (fun K4 h4 => ?_)
  refine wp_seq_k (fun K5 h5 => ?_)
  refine W.region_quiet [(0, false)] (by kernel_rfl) ?_
  refine F.as (v := .int .i64 2) (h := ?_)
  refine F.endF [(0, .pointer (some ⟨B, 0, none⟩)), (2, .pointer (some ⟨b2, 0, none⟩)), (3, .pointer (some ⟨b20, 0, none⟩)), (4, .int .i64 0), (5, .int .i64 2)] (fun U36 => ?_)
  refine h5 _ _ ?_
  refine wp_block ?_
  have ho38 : World.ownsRow w29 w.heap.size 51 4 (.slice none 0 0) 0 (pipesV []) := World.ownsRow_nil _ _ _ _
  have nb39 : Nb B (.slice none 0 0) := nb_nil
  have nb40 : Nb b2 (.slice none 0 0) := nb_nil
  have nb41 : Nb b20 (.slice none 0 0) := nb_nil
  refine loopK (fun am0 aa0 wl0 => ∃ (i : Nat) (d0 : Int) (ps0 : List Pp) (A0_c3_1 : Option Addr) (n0_c3_1 : Nat) (c0_c3_1 : Nat) (U0 : Nat → Value), aa0 = ⟨(fr U0 [(0, .pointer (some ⟨B, 0, none⟩)), (2, .pointer (some ⟨b2, 0, none⟩)), (3, .pointer (some ⟨b20, 0, none⟩)), (4, .int .i64 d0), (5, .int .i64 ((i : Nat) : Int))] 97 0).toArray, []⟩ ∧ (am0 = 10 - i) ∧ (2 ≤ i ∧ i ≤ 9) ∧ (0 ≤ d0 ∧ d0 ≤ 4 * i) ∧ (∀ p, p ∈ ps0 → smP p) ∧ (ps0.length + 2 ≤ i) ∧ (Cur wl0 B N (k + 10 * i)) ∧ (wl0.heap[b2]? = some (.cells #[.int .i64 0, .slice none 0 0] 31 (0, 0))) ∧ (wl0.heap[b20]? = some (.cells #[.int .i64 (1 + x13), .slice A0_c3_1 n0_c3_1 c0_c3_1] 31 (0, 0))) ∧ (wl0.ownsRow w.heap.size 51 4 (.slice A0_c3_1 n0_c3_1 c0_c3_1) n0_c3_1 (pipesV ps0)) ∧ (Nb B (.slice A0_c3_1 n0_c3_1 c0_c3_1)) ∧ (Nb b2 (.slice A0_c3_1 n0_c3_1 c0_c3_1)) ∧ (Nb b20 (.slice A0_c3_1 n0_c3_1 c0_c3_1)) ∧ (w.grownBy wl0 (some B))) (10 - 2) ?_ ?_
  · exact ⟨2, 0, [], none, 0, 0, (fun iU9 => lk [(0, .pointer (some ⟨B, 0, none⟩)), (2, .pointer (some ⟨b2, 0, none⟩)), (3, .pointer (some ⟨b20, 0, none⟩)), (4, .int .i64 0), (5, .int .i64 2)] iU9 (U36 iU9)), (by kernel_rfl), rfl, (⟨by omega, by omega⟩), (⟨by omega, by omega⟩), sm_nil, (by simp), (Cur.mono x18 (by omega)), x6, x31, ho38, nb39, nb40, nb41, c34⟩
  rintro am0 aa0 wl0 K6 h6 ⟨i, d0, ps0, A0_c3_1, n0_c3_1, c0_c3_1, U0, rfl, rfl, hi, hd, hps, hln, x18, x6, x31, ho0_c3_1, nb0_c3_1_B, nb0_c3_1_b2, nb0_c3_1_b20, c42⟩
  have hl09 := rd_pipes_len (own_rd ho0_c3_1)
  refine wp_seq_k (fun K7 h7 => ?_)
  refine wp_seq_k (fun K8 h8 => ?_)
  refine W.region_quiet [(0, false), (1, false), (2, false), (3, false)] (by kernel_rfl) ?_
  refine F.mv (v := .int .i64 ((i : Nat) : Int)) (h := ?_)
  refine F.q (v := .pointer (some ⟨b20, 0, none⟩)) (hr := (r_field0 rfl (ev_any (by kernel_rfl)) (by kernel_rfl))) (h := ?_)
  refine F.ld (v := .int .i64 (1 + x13)) (hc := (eqS (blk_cell (j := 0) x31 (by kernel_rfl)))) (h := ?_)
  by_cases q43 : (((i : Nat) : Int) : Int) ≤ (1 + x13 : Int)
  · refine F.q (v := .bool true) (hr := (r_leq (m := ((i : Nat) : Int)) (n := 1 + x13) rfl (ev_any (by kernel_rfl)) (ev_any (by kernel_rfl)) (decide_eq_true q43))) (h := ?_)
    refine F.endF [(0, .pointer (some ⟨B, 0, none⟩)), (2, .pointer (some ⟨b2, 0, none⟩)), (3, .pointer (some ⟨b20, 0, none⟩)), (4, .int .i64 d0), (5, .int .i64 ((i : Nat) : Int)), (16, .bool true)] (fun U44 => ?_)
    refine h8 _ _ ?_
    refine wp_cond_true (by kernel_rfl) ?_
    refine wp_skip ?_
    refine h7 _ _ ?_
    refine wp_seq_k (fun K9 h9 => ?_)
    refine wp_block ?_
    refine wp_seq_k (fun K10 h10 => ?_)
    refine wp_seq_k (fun K11 h11 => ?_)
    refine W.region_plain (row := (some B)) [(0, false), (1, true)] (by kernel_rfl) ?_
    have s45 := SG.self wl0 (some B)
    refine F.mv (v := .pointer (some ⟨B, 0, none⟩)) (h := ?_)
    refine W.sc (vs := [.pointer (some ⟨B, 0, none⟩), .int .i64 10]) rfl rfl (by kernel_rfl) (by kernel_rfl) (by kernel_rfl) rfl (one_any B N (k + 10 * i) 10 _ x18 (by omega) (by omega)) ?_
    rintro e w49 ⟨b46, rfl, _, x51, g50⟩
    have s52 := SG.of_grown s45 g50 (.inl rfl)
    refine ⟨_, rfl, s52, ?_⟩
    refine F.nx ?_
    have ho53 := own_grown ho0_c3_1 g50 (fun j e1 e2 => by cases e2; exact nb0_c3_1_B e1.symm)
    rcases Bool.eq_false_or_eq_true b46 with q54 | q54
    · rw [q54]
      refine F.endF [(0, .pointer (some ⟨B, 0, none⟩)), (2, .pointer (some ⟨b2, 0, none⟩)), (3, .pointer (some ⟨b20, 0, none⟩)), (4, .int .i64 d0), (5, .int .i64 ((i : Nat) : Int)), (16, .bool true), (20, .bool true)] (fun U55 => ?_)
      have x6 := SG.blk s52 x6 (fun e9 => ne9 (Option.some.inj e9).symm)
      have x31 := SG.blk s52 x31 (fun e9 => ne27 (Option.some.inj e9).symm)
      have c56 := (SG.fr (B := B) c42 s52 (fun kq e => .inl (by cases e; rfl)))
      refine h11 _ _ ?_
      refine wp_cond_true (by kernel_rfl) ?_
      refine wp_exit ?_
      refine h9 _ _ ?_
      refine W.region_quiet [(0, false), (1, false), (2, false)] (by kernel_rfl) ?_
      refine F.mv (v := .int .i64 ((i : Nat) : Int)) (h := ?_)
      refine F.q (v := .int .i64 ((i + 1 : Nat) : Int)) (hr := (r_add (m := ((i : Nat) : Int)) (n := 1) (z := ((i + 1 : Nat) : Int)) rfl (ev_any (by kernel_rfl)) (ev_any (by kernel_rfl)) (by omega) (by omega))) (h := ?_)
      refine F.as (v := .int .i64 ((i + 1 : Nat) : Int)) (h := ?_)
      refine F.endF [(0, .pointer (some ⟨B, 0, none⟩)), (2, .pointer (some ⟨b2, 0, none⟩)), (3, .pointer (some ⟨b20, 0, none⟩)), (4, .int .i64 d0), (5, .int .i64 ((i + 1 : Nat) : Int)), (16, .bool true), (20, .bool true)] (fun U57 => ?_)
      exact h6 _ _ _ (by omega : (10 - (i + 1)) < _) ⟨i + 1, d0, ps0, A0_c3_1, n0_c3_1, c0_c3_1, (fun iU9 => lk [(0, .pointer (some ⟨B, 0, none⟩)), (2, .pointer (some ⟨b2, 0, none⟩)), (3, .pointer (some ⟨b20, 0, none⟩)), (4, .int .i64 d0), (5, .int .i64 ((i + 1 : Nat) : Int)), (16, .bool true), (20, .bool true)] iU9 (U57 iU9)), (by kernel_rfl), rfl, (⟨by omega, by omega⟩), (⟨by omega, by omega⟩), hps, (by omega), (Cur.mono x51 (by omega)), x6, x31, ho53, nb0_c3_1_B, nb0_c3_1_b2, nb0_c3_1_b20, c56⟩
    · rw [q54]
      refine F.endF [(0, .pointer (some ⟨B, 0, none⟩)), (2, .pointer (some ⟨b2, 0, none⟩)), (3, .pointer (some ⟨b20, 0, none⟩)), (4, .int .i64 d0), (5, .int .i64 ((i : Nat) : Int)), (16, .bool true), (20, .bool false)] (fun U58 => ?_)
      have x6 := SG.blk s52 x6 (fun e9 => ne9 (Option.some.inj e9).symm)
      have x31 := SG.blk s52 x31 (fun e9 => ne27 (Option.some.inj e9).symm)
      have c59 := (SG.fr (B := B) c42 s52 (fun kq e => .inl (by cases e; rfl)))
      refine h11 _ _ ?_
      refine wp_cond_false (by kernel_rfl) ?_
      refine wp_skip ?_
      refine h10 _ _ ?_
      refine wp_seq_k (fun K12 h12 => ?_)
      refine W.region_plain (row := (some B)) [(0, false), (1, false), (2, false), (3, true), (4, false), (5, false)] (by kernel_rfl) ?_
      have s60 := SG.self w49 (some B)
      refine F.mv (v := .int .i64 d0) (h := ?_)
      refine F.q (v := .int .i64 (d0 + 1)) (hr := (r_add (m := d0) (n := 1) (z := d0 + 1) rfl (ev_any (by kernel_rfl)) (ev_any (by kernel_rfl)) (rfl) (by omega))) (h := ?_)
      refine F.mv (v := .pointer (some ⟨B, 0, none⟩)) (h := ?_)
      refine W.sc (vs := [.pointer (some ⟨B, 0, none⟩), .int .i64 3]) rfl rfl (by kernel_rfl) (by kernel_rfl) (by kernel_rfl) rfl (pick_any B N (k + 10 * i + 2) 3 _ x51 (by omega) (by omega)) ?_
      rintro e w64 ⟨x61, rfl, hx62, x66, g65⟩
      have s67 := SG.of_grown s60 g65 (.inl rfl)
      refine ⟨_, rfl, s67, ?_⟩
      refine F.nx ?_
      have ho68 := own_grown ho53 g65 (fun j e1 e2 => by cases e2; exact nb0_c3_1_B e1.symm)
      refine F.q (v := .int .i64 (d0 + 1 + x61)) (hr := (r_add (m := d0 + 1) (n := x61) (z := d0 + 1 + x61) rfl (ev_any (by kernel_rfl)) (ev_any (by kernel_rfl)) (rfl) (by omega))) (h := ?_)
      refine F.as (v := .int .i64 (d0 + 1 + x61)) (h := ?_)
      refine F.endF [(0, .pointer (some ⟨B, 0, none⟩)), (2, .pointer (some ⟨b2, 0, none⟩)), (3, .pointer (some ⟨b20, 0, none⟩)), (4, .int .i64 (d0 + 1 + x61)), (5, .int .i64 ((i : Nat) : Int)), (16, .bool true), (20, .bool false)] (fun U69 => ?_)
      have x6 := SG.blk s67 x6 (fun e9 => ne9 (Option.some.inj e9).symm)
      have x31 := SG.blk s67 x31 (fun e9 => ne27 (Option.some.inj e9).symm)
      have c70 := (SG.fr (B := B) c59 s67 (fun kq e => .inl (by cases e; rfl)))
      refine h12 _ _ ?_
      refine wp_seq_k (fun K13 h13 => ?_)
      refine W.region_plain (row := (some B)) [(0, false), (1, false), (2, false), (3, false), (4, true), (5, false), (6, false), (7, false), (8, true), (9, false), (10, false), (11, true), (12, true)] (by kernel_rfl) ?_
      have s71 := SG.self w64 (some B)
      refine F.mv (v := .int .i64 (d0 + 1 + x61)) (h := ?_)
      refine F.mv (v := .pointer (some ⟨B, 0, none⟩)) (h := ?_)
      refine F.mv (v := .int .i64 ((i : Nat) : Int)) (h := ?_)
      refine F.q (v := .int .i64 (((i : Nat) : Int) - 1)) (hr := (r_sub (m := ((i : Nat) : Int)) (n := 1) (z := ((i : Nat) : Int) - 1) rfl (ev_any (by kernel_rfl)) (ev_any (by kernel_rfl)) (rfl) (by omega))) (h := ?_)
      refine W.sc (vs := [.pointer (some ⟨B, 0, none⟩), .int .i64 (((i : Nat) : Int) - 1)]) rfl rfl (by kernel_rfl) (by kernel_rfl) (by kernel_rfl) rfl (pick_any B N ((k + 10 * i + 2) + 2) (((i : Nat) : Int) - 1) _ x66 (by omega) (by omega)) ?_
      rintro e w75 ⟨x72, rfl, hx73, x77, g76⟩
      have s78 := SG.of_grown s71 g76 (.inl rfl)
      refine ⟨_, rfl, s78, ?_⟩
      refine F.nx ?_
      have ho79 := own_grown ho68 g76 (fun j e1 e2 => by cases e2; exact nb0_c3_1_B e1.symm)
      refine F.q (v := .int .i64 (1 + x72)) (hr := (r_add (m := 1) (n := x72) (z := 1 + x72) rfl (ev_any (by kernel_rfl)) (ev_any (by kernel_rfl)) (rfl) (by omega))) (h := ?_)
      refine F.mv (v := .int .i64 ((i : Nat) : Int)) (h := ?_)
      refine F.mv (v := .pointer (some ⟨B, 0, none⟩)) (h := ?_)
      refine W.sc (vs := [.pointer (some ⟨B, 0, none⟩), .int .i64 9]) rfl rfl (by kernel_rfl) (by kernel_rfl) (by kernel_rfl) rfl (pick_any B N (((k + 10 * i + 2) + 2) + 2) 9 _ x77 (by omega) (by omega)) ?_
      rintro e w83 ⟨x80, rfl, hx81, x85, g84⟩
      have s86 := SG.of_grown s78 g84 (.inl rfl)
      refine ⟨_, rfl, s86, ?_⟩
      refine F.nx ?_
      have ho87 := own_grown ho79 g84 (fun j e1 e2 => by cases e2; exact nb0_c3_1_B e1.symm)
      refine F.q (v := .int .i64 (1 + x80)) (hr := (r_add (m := 1) (n := x80) (z := 1 + x80) rfl (ev_any (by kernel_rfl)) (ev_any (by kernel_rfl)) (rfl) (by omega))) (h := ?_)
      refine F.q (v := .agg #[.int .i64 (d0 + 1 + x61), .int .i64 (1 + x72), .int .i64 ((i : Nat) : Int), .int .i64 (1 + x80)]) (hr := (r_build rfl (vs := [(0, .int .i64 (d0 + 1 + x61)), (1, .int .i64 (1 + x72)), (2, .int .i64 ((i : Nat) : Int)), (3, .int .i64 (1 + x80))]) (by kernel_rfl) (by kernel_rfl))) (h := ?_)
      refine W.sn (fun b => .pointer (some ⟨b, 0, none⟩)) #[.int .i64 0, .int .i64 0, .int .i64 0, .int .i64 0] 51 s86 rfl (by kernel_rfl) rfl (fun _ => by kernel_rfl) (fun b88 w89 hb90 k91 x92 s93 => ?_)
      refine F.nx ?_
      have lo94 : w.heap.size ≤ b88 := Nat.le_trans ((SG.fr (B := B) c70 s86 (fun kq e => .inl (by cases e; rfl)))).size (Nat.le_of_eq hb90)
      have ne95 : B ≠ b88 := Nat.ne_of_lt (Nat.lt_of_lt_of_eq (Cur.lt x85) hb90)
      have ne96 : b2 ≠ b88 := Nat.ne_of_lt (Nat.lt_of_lt_of_eq (Nat.lt_of_lt_of_le (blk_lt x6) (s86).size) hb90)
      have ne97 : b20 ≠ b88 := Nat.ne_of_lt (Nat.lt_of_lt_of_eq (Nat.lt_of_lt_of_le (blk_lt x31) (s86).size) hb90)
      have nb98 : Nb b88 (.slice A0_c3_1 n0_c3_1 c0_c3_1) := nb_hi ho87 (Nat.le_of_eq hb90)
      have x85 := Cur.below x85 k91
      have ho99 := own_kept ho87 k91
      refine W.ss (v := .agg #[.int .i64 (d0 + 1 + x61), .int .i64 (1 + x72), .int .i64 ((i : Nat) : Int), .int .i64 (1 + x80)]) (j := 0) (news := [.int .i64 (d0 + 1 + x61), .int .i64 (1 + x72), .int .i64 ((i : Nat) : Int), .int .i64 (1 + x80)]) (cs' := #[.int .i64 (d0 + 1 + x61), .int .i64 (1 + x72), .int .i64 ((i : Nat) : Int), .int .i64 (1 + x80)]) s93 rfl (by kernel_rfl) rfl rfl (by kernel_rfl) (by kernel_rfl) x92 (by kernel_rfl) (by kernel_rfl) (by simp) (by kernel_rfl) (by kernel_rfl) (.inr (Nat.le_trans (s86).size (Nat.le_of_eq hb90))) (fun w100 g101 x102 s103 => ?_)
      have x85 := Cur.grown x85 g101 (fun e9 => ne95 (Option.some.inj e9)) (fun j e => by cases e; exact Nat.le_trans hN lo94)
      have ho104 := own_grown ho99 g101 (fun j e1 e2 => by cases e2; exact nb98 e1.symm)
      refine F.endF [(0, .pointer (some ⟨B, 0, none⟩)), (2, .pointer (some ⟨b2, 0, none⟩)), (3, .pointer (some ⟨b20, 0, none⟩)), (4, .int .i64 (d0 + 1 + x61)), (5, .int .i64 ((i : Nat) : Int)), (6, .pointer (some ⟨b88, 0, none⟩)), (16, .bool true), (20, .bool false)] (fun U105 => ?_)
      have x6 := SG.blk s103 x6 (fun e9 => ne9 (Option.some.inj e9).symm)
      have x31 := SG.blk s103 x31 (fun e9 => ne27 (Option.some.inj e9).symm)
      have c106 := (SG.fr (B := B) c70 s103 (fun kq e => .inl (by cases e; rfl)))
      refine h13 _ _ ?_
      refine wp_seq_k (fun K14 h14 => ?_)
      refine wp_seq_k (fun K15 h15 => ?_)
      refine W.region_plain (row := (some B)) [(0, false), (1, true)] (by kernel_rfl) ?_
      have s107 := SG.self w100 (some B)
      refine F.mv (v := .pointer (some ⟨B, 0, none⟩)) (h := ?_)
      refine W.sc (vs := [.pointer (some ⟨B, 0, none⟩), .int .i64 2]) rfl rfl (by kernel_rfl) (by kernel_rfl) (by kernel_rfl) rfl (one_any B N ((((k + 10 * i + 2) + 2) + 2) + 2) 2 _ x85 (by omega) (by omega)) ?_
      rintro e w111 ⟨b108, rfl, _, x113, g112⟩
      have s114 := SG.of_grown s107 g112 (.inl rfl)
      refine ⟨_, rfl, s114, ?_⟩
      refine F.nx ?_
      have ho115 := own_grown ho104 g112 (fun j e1 e2 => by cases e2; exact nb0_c3_1_B e1.symm)
      rcases Bool.eq_false_or_eq_true b108 with q116 | q116
      · rw [q116]
        refine F.endF [(0, .pointer (some ⟨B, 0, none⟩)), (2, .pointer (some ⟨b2, 0, none⟩)), (3, .pointer (some ⟨b20, 0, none⟩)), (4, .int .i64 (d0 + 1 + x61)), (5, .int .i64 ((i : Nat) : Int)), (6, .pointer (some ⟨b88, 0, none⟩)), (16, .bool true), (20, .bool false), (38, .bool true)] (fun U117 => ?_)
        have x6 := SG.blk s114 x6 (fun e9 => ne9 (Option.some.inj e9).symm)
        have x31 := SG.blk s114 x31 (fun e9 => ne27 (Option.some.inj e9).symm)
        have x102 := SG.blk s114 x102 (fun e9 => ne95 (Option.some.inj e9).symm)
        have c118 := (SG.fr (B := B) c106 s114 (fun kq e => .inl (by cases e; rfl)))
        refine h15 _ _ ?_
        refine wp_cond_true (by kernel_rfl) ?_
        refine W.region_plain (row := (some b88)) [(0, false), (1, false), (2, true), (3, false), (4, true), (5, false), (6, true), (7, false), (8, true)] (by kernel_rfl) ?_
        have s119 := SG.self w111 (some b88)
        refine F.mv (v := .int .i64 (d0 + 1 + x61)) (h := ?_)
        refine F.q (v := .pointer (some ⟨b88, 2, none⟩)) (hr := (r_field (k := 2) rfl (ev_any (by kernel_rfl)) (by kernel_rfl))) (h := ?_)
        refine W.slq (v := .int .i64 ((i : Nat) : Int)) s119 rfl (r_load rfl (by kernel_rfl) (by kernel_rfl) (eqS (blk_cell (j := 2) x102 (by kernel_rfl)))) (by kernel_rfl) rfl ?_
        refine F.nx ?_
        refine F.q (v := .pointer (some ⟨b88, 1, none⟩)) (hr := (r_field (k := 1) rfl (ev_any (by kernel_rfl)) (by kernel_rfl))) (h := ?_)
        refine W.slq (v := .int .i64 (1 + x72)) s119 rfl (r_load rfl (by kernel_rfl) (by kernel_rfl) (eqS (blk_cell (j := 1) x102 (by kernel_rfl)))) (by kernel_rfl) rfl ?_
        refine F.nx ?_
        refine F.q (v := .pointer (some ⟨b88, 3, none⟩)) (hr := (r_field (k := 3) rfl (ev_any (by kernel_rfl)) (by kernel_rfl))) (h := ?_)
        refine W.slq (v := .int .i64 (1 + x80)) s119 rfl (r_load rfl (by kernel_rfl) (by kernel_rfl) (eqS (blk_cell (j := 3) x102 (by kernel_rfl)))) (by kernel_rfl) rfl ?_
        refine F.nx ?_
        refine F.q (v := .agg #[.int .i64 (d0 + 1 + x61), .int .i64 ((i : Nat) : Int), .int .i64 (1 + x72), .int .i64 (1 + x80)]) (hr := (r_build rfl (vs := [(0, .int .i64 (d0 + 1 + x61)), (1, .int .i64 ((i : Nat) : Int)), (2, .int .i64 (1 + x72)), (3, .int .i64 (1 + x80))]) (by kernel_rfl) (by kernel_rfl))) (h := ?_)
        refine W.ss (v := .agg #[.int .i64 (d0 + 1 + x61), .int .i64 ((i : Nat) : Int), .int .i64 (1 + x72), .int .i64 (1 + x80)]) (j := 0) (news := [.int .i64 (d0 + 1 + x61), .int .i64 ((i : Nat) : Int), .int .i64 (1 + x72), .int .i64 (1 + x80)]) (cs' := #[.int .i64 (d0 + 1 + x61), .int .i64 ((i : Nat) : Int), .int .i64 (1 + x72), .int .i64 (1 + x80)]) s119 rfl (by kernel_rfl) rfl rfl (by kernel_rfl) (by kernel_rfl) x102 (by kernel_rfl) (by kernel_rfl) (by simp) (by kernel_rfl) (by kernel_rfl) (.inl rfl) (fun w120 g121 x122 s123 => ?_)
        have ho124 := own_grown ho115 g121 (fun j e1 e2 => by cases e2; exact nb98 e1.symm)
        refine F.endF [(0, .pointer (some ⟨B, 0, none⟩)), (2, .pointer (some ⟨b2, 0, none⟩)), (3, .pointer (some ⟨b20, 0, none⟩)), (4, .int .i64 (d0 + 1 + x61)), (5, .int .i64 ((i : Nat) : Int)), (6, .pointer (some ⟨b88, 0, none⟩)), (16, .bool true), (20, .bool false), (38, .bool true)] (fun U125 => ?_)
        have x113 := Cur.grown x113 s123 (fun e9 => ne95 (Option.some.inj e9)) (fun j e => by cases e; exact Nat.le_trans hN lo94)
        have x6 := SG.blk s123 x6 (fun e9 => ne96 (Option.some.inj e9))
        have x31 := SG.blk s123 x31 (fun e9 => ne97 (Option.some.inj e9))
        have c126 := (SG.fr (B := B) c118 s123 (fun kq e => .inr (by cases e; exact lo94)))
        refine h14 _ _ ?_
        refine M.region_plain (row := [(Value.ownBlock (.slice A0_c3_1 n0_c3_1 c0_c3_1)), (some b20)]) [(0, false), (1, true), (2, false), (3, true), (4, true), (5, false), (6, true)] (by kernel_rfl) ?_
        have s127 := SM.self w120 [(Value.ownBlock (.slice A0_c3_1 n0_c3_1 c0_c3_1)), (some b20)]
        refine F.q (v := .pointer (some ⟨b20, 1, none⟩)) (hr := (r_field (k := 1) rfl (ev_any (by kernel_rfl)) (by kernel_rfl))) (h := ?_)
        refine W.slq (v := .slice A0_c3_1 n0_c3_1 c0_c3_1) s127 rfl (r_load rfl (by kernel_rfl) (by kernel_rfl) (eqS (blk_cell (j := 1) x31 (by kernel_rfl)))) (by kernel_rfl) rfl ?_
        refine F.nx ?_
        refine F.q (v := .agg #[.int .i64 (d0 + 1 + x61), .int .i64 ((i : Nat) : Int), .int .i64 (1 + x72), .int .i64 (1 + x80)]) (hr := (r_load4 rfl (ev_any (by kernel_rfl)) (by kernel_rfl) (by kernel_rfl) (smS (blk_cell (j := 0) x122 (by kernel_rfl)) (ne2 nb98 (fun e9 => ne97 (Option.some.inj e9).symm))) (smS (blk_cell (j := 1) x122 (by kernel_rfl)) (ne2 nb98 (fun e9 => ne97 (Option.some.inj e9).symm))) (smS (blk_cell (j := 2) x122 (by kernel_rfl)) (ne2 nb98 (fun e9 => ne97 (Option.some.inj e9).symm))) (smS (blk_cell (j := 3) x122 (by kernel_rfl)) (ne2 nb98 (fun e9 => ne97 (Option.some.inj e9).symm))))) (h := ?_)
        refine M.sn (fun b => .slice (some ⟨b, 0, none⟩) 1 1) #[.int .i64 (d0 + 1 + x61), .int .i64 ((i : Nat) : Int), .int .i64 (1 + x72), .int .i64 (1 + x80)] 51 s127 rfl (by kernel_rfl) rfl (fun _ => by kernel_rfl) (fun b128 w129 hb130 k131 x132 s133 => ?_)
        refine F.nx ?_
        have lo134 : w.heap.size ≤ b128 := Nat.le_trans ((SM.fr (B := B) c126 s127 (in2 (fun kq e => .inr (World.ownsRow.lt ho124 kq e).1) (fun kq e => .inr (by cases e; exact lo26))))).size (Nat.le_of_eq hb130)
        have ne135 : B ≠ b128 := Nat.ne_of_lt (Nat.lt_of_lt_of_eq (Nat.lt_of_lt_of_le (Cur.lt x113) (s127).size) hb130)
        have ne136 : b2 ≠ b128 := Nat.ne_of_lt (Nat.lt_of_lt_of_eq (Nat.lt_of_lt_of_le (blk_lt x6) (s127).size) hb130)
        have ne137 : b20 ≠ b128 := Nat.ne_of_lt (Nat.lt_of_lt_of_eq (blk_lt x31) hb130)
        have ne138 : b88 ≠ b128 := Nat.ne_of_lt (Nat.lt_of_lt_of_eq (Nat.lt_of_lt_of_le (blk_lt x122) (s127).size) hb130)
        have nb139 : Nb b128 (.slice A0_c3_1 n0_c3_1 c0_c3_1) := nb_hi ho124 (Nat.le_of_eq hb130)
        have x31 := (k131.block _ (blk_lt x31)).trans x31
        have ho140 := own_kept ho124 k131
        refine M.sap (e := 51) (size := 4) (base := w.heap.size) (m := 1) (v := .slice A0_c3_1 n0_c3_1 c0_c3_1) (c := 1) s133 rfl rfl rfl rfl (by kernel_rfl) (by kernel_rfl) (by kernel_rfl) ho140 x132 (by kernel_rfl) (by kernel_rfl) (by omega) (by omega) (by have := ((SM.fr (B := B) c126 s133 (in2 (fun kq e => .inr (World.ownsRow.lt ho124 kq e).1) (fun kq e => .inr (by cases e; exact lo26))))).size; omega) (.inl (by simp)) (fun g141 cap142 w143 ho144 hg145 hat146 hlt147 s148 => ?_)
        refine F.nx ?_
        have nb149 : Nb B (.slice (some ⟨g141, 0, none⟩) (n0_c3_1 + 1) cap142) := nb_app nb0_c3_1_B (Nat.lt_of_lt_of_le (Cur.lt x113) (s133).size) hat146
        have nb150 : Nb b2 (.slice (some ⟨g141, 0, none⟩) (n0_c3_1 + 1) cap142) := nb_app nb0_c3_1_b2 (Nat.lt_of_lt_of_le (blk_lt x6) (s133).size) hat146
        have nb151 : Nb b20 (.slice (some ⟨g141, 0, none⟩) (n0_c3_1 + 1) cap142) := nb_app nb0_c3_1_b20 (blk_lt x31) hat146
        have x31 := (hg145.block _ (blk_lt x31) nb0_c3_1_b20).trans x31
        have nb152 : Nb b88 (.slice (some ⟨g141, 0, none⟩) (n0_c3_1 + 1) cap142) := nb_app nb98 (Nat.lt_of_lt_of_le (blk_lt x122) (s133).size) hat146
        have nb153 : Nb b128 (.slice (some ⟨g141, 0, none⟩) (n0_c3_1 + 1) cap142) := nb_app nb139 (blk_lt x132) hat146
        have x132 := (hg145.block _ (blk_lt x132) nb139).trans x132
        have ho144 := own_snocP (x := (Pp.mk (d0 + 1 + x61) ((i : Nat) : Int) (1 + x72) (1 + x80))) ho144
        refine F.q (v := .pointer (some ⟨b20, 1, none⟩)) (hr := (r_field (k := 1) rfl (ev_any (by kernel_rfl)) (by kernel_rfl))) (h := ?_)
        refine M.ss (v := .slice (some ⟨g141, 0, none⟩) (n0_c3_1 + 1) cap142) (j := 1) (news := [.slice (some ⟨g141, 0, none⟩) (n0_c3_1 + 1) cap142]) (cs' := #[.int .i64 (1 + x13), .slice (some ⟨g141, 0, none⟩) (n0_c3_1 + 1) cap142]) s148 rfl (by kernel_rfl) rfl rfl (by kernel_rfl) (by kernel_rfl) x31 (by kernel_rfl) (by kernel_rfl) (by simp) (by kernel_rfl) (by kernel_rfl) (.inl (by simp)) (fun w154 g155 x156 s157 => ?_)
        have x132 := (g155.block _ (blk_lt x132) (fun e9 => ne137 (Option.some.inj e9).symm)).trans x132
        have ho158 := own_grown ho144 g155 (fun j e1 e2 => by cases e2; exact nb151 e1.symm)
        refine F.endF [(0, .pointer (some ⟨B, 0, none⟩)), (2, .pointer (some ⟨b2, 0, none⟩)), (3, .pointer (some ⟨b20, 0, none⟩)), (4, .int .i64 (d0 + 1 + x61)), (5, .int .i64 ((i : Nat) : Int)), (6, .pointer (some ⟨b88, 0, none⟩)), (16, .bool true), (20, .bool false), (38, .bool true)] (fun U159 => ?_)
        have x113 := Cur.sm x113 s157 (ne2 nb0_c3_1_B (fun e9 => ne27 (Option.some.inj e9))) (in2 (fun j e => Nat.le_trans hN (World.ownsRow.lt ho124 j e).1) (fun j e => by cases e; exact Nat.le_trans hN lo26))
        have x6 := SM.blk s157 x6 (ne2 nb0_c3_1_b2 (fun e9 => ne28 (Option.some.inj e9)))
        have x122 := SM.blk s157 x122 (ne2 nb98 (fun e9 => ne97 (Option.some.inj e9).symm))
        have c160 := (SM.fr (B := B) c126 s157 (in2 (fun kq e => .inr (World.ownsRow.lt ho124 kq e).1) (fun kq e => .inr (by cases e; exact lo26))))
        refine h9 _ _ ?_
        refine W.region_quiet [(0, false), (1, false), (2, false)] (by kernel_rfl) ?_
        refine F.mv (v := .int .i64 ((i : Nat) : Int)) (h := ?_)
        refine F.q (v := .int .i64 ((i + 1 : Nat) : Int)) (hr := (r_add (m := ((i : Nat) : Int)) (n := 1) (z := ((i + 1 : Nat) : Int)) rfl (ev_any (by kernel_rfl)) (ev_any (by kernel_rfl)) (by omega) (by omega))) (h := ?_)
        refine F.as (v := .int .i64 ((i + 1 : Nat) : Int)) (h := ?_)
        refine F.endF [(0, .pointer (some ⟨B, 0, none⟩)), (2, .pointer (some ⟨b2, 0, none⟩)), (3, .pointer (some ⟨b20, 0, none⟩)), (4, .int .i64 (d0 + 1 + x61)), (5, .int .i64 ((i + 1 : Nat) : Int)), (6, .pointer (some ⟨b88, 0, none⟩)), (16, .bool true), (20, .bool false), (38, .bool true)] (fun U161 => ?_)
        exact h6 _ _ _ (by omega : (10 - (i + 1)) < _) ⟨i + 1, d0 + 1 + x61, (ps0 ++ [(Pp.mk (d0 + 1 + x61) ((i : Nat) : Int) (1 + x72) (1 + x80))]), (some ⟨g141, 0, none⟩), (n0_c3_1 + 1), cap142, (fun iU9 => lk [(0, .pointer (some ⟨B, 0, none⟩)), (2, .pointer (some ⟨b2, 0, none⟩)), (3, .pointer (some ⟨b20, 0, none⟩)), (4, .int .i64 (d0 + 1 + x61)), (5, .int .i64 ((i + 1 : Nat) : Int)), (6, .pointer (some ⟨b88, 0, none⟩)), (16, .bool true), (20, .bool false), (38, .bool true)] iU9 (U161 iU9)), (by kernel_rfl), rfl, (⟨by omega, by omega⟩), (⟨by omega, by omega⟩), (sm_snoc hps (sm_mk (by omega))), (by rw [snoc_len]; omega), (Cur.mono x113 (by omega)), x6, x156, ho158, nb149, nb150, nb151, c160⟩
      · rw [q116]
        refine F.endF [(0, .pointer (some ⟨B, 0, none⟩)), (2, .pointer (some ⟨b2, 0, none⟩)), (3, .pointer (some ⟨b20, 0, none⟩)), (4, .int .i64 (d0 + 1 + x61)), (5, .int .i64 ((i : Nat) : Int)), (6, .pointer (some ⟨b88, 0, none⟩)), (16, .bool true), (20, .bool false), (38, .bool false)] (fun U162 => ?_)
        have x6 := SG.blk s114 x6 (fun e9 => ne9 (Option.some.inj e9).symm)
        have x31 := SG.blk s114 x31 (fun e9 => ne27 (Option.some.inj e9).symm)
        have x102 := SG.blk s114 x102 (fun e9 => ne95 (Option.some.inj e9).symm)
        have c163 := (SG.fr (B := B) c106 s114 (fun kq e => .inl (by cases e; rfl)))
        refine h15 _ _ ?_
        refine wp_cond_false (by kernel_rfl) ?_
        refine wp_skip ?_
        refine h14 _ _ ?_
        refine M.region_plain (row := [(Value.ownBlock (.slice A0_c3_1 n0_c3_1 c0_c3_1)), (some b20)]) [(0, false), (1, true), (2, false), (3, true), (4, true), (5, false), (6, true)] (by kernel_rfl) ?_
        have s164 := SM.self w111 [(Value.ownBlock (.slice A0_c3_1 n0_c3_1 c0_c3_1)), (some b20)]
        refine F.q (v := .pointer (some ⟨b20, 1, none⟩)) (hr := (r_field (k := 1) rfl (ev_any (by kernel_rfl)) (by kernel_rfl))) (h := ?_)
        refine W.slq (v := .slice A0_c3_1 n0_c3_1 c0_c3_1) s164 rfl (r_load rfl (by kernel_rfl) (by kernel_rfl) (eqS (blk_cell (j := 1) x31 (by kernel_rfl)))) (by kernel_rfl) rfl ?_
        refine F.nx ?_
        refine F.q (v := .agg #[.int .i64 (d0 + 1 + x61), .int .i64 (1 + x72), .int .i64 ((i : Nat) : Int), .int .i64 (1 + x80)]) (hr := (r_load4 rfl (ev_any (by kernel_rfl)) (by kernel_rfl) (by kernel_rfl) (smS (blk_cell (j := 0) x102 (by kernel_rfl)) (ne2 nb98 (fun e9 => ne97 (Option.some.inj e9).symm))) (smS (blk_cell (j := 1) x102 (by kernel_rfl)) (ne2 nb98 (fun e9 => ne97 (Option.some.inj e9).symm))) (smS (blk_cell (j := 2) x102 (by kernel_rfl)) (ne2 nb98 (fun e9 => ne97 (Option.some.inj e9).symm))) (smS (blk_cell (j := 3) x102 (by kernel_rfl)) (ne2 nb98 (fun e9 => ne97 (Option.some.inj e9).symm))))) (h := ?_)
        refine M.sn (fun b => .slice (some ⟨b, 0, none⟩) 1 1) #[.int .i64 (d0 + 1 + x61), .int .i64 (1 + x72), .int .i64 ((i : Nat) : Int), .int .i64 (1 + x80)] 51 s164 rfl (by kernel_rfl) rfl (fun _ => by kernel_rfl) (fun b165 w166 hb167 k168 x169 s170 => ?_)
        refine F.nx ?_
        have lo171 : w.heap.size ≤ b165 := Nat.le_trans ((SM.fr (B := B) c163 s164 (in2 (fun kq e => .inr (World.ownsRow.lt ho115 kq e).1) (fun kq e => .inr (by cases e; exact lo26))))).size (Nat.le_of_eq hb167)
        have ne172 : B ≠ b165 := Nat.ne_of_lt (Nat.lt_of_lt_of_eq (Nat.lt_of_lt_of_le (Cur.lt x113) (s164).size) hb167)
        have ne173 : b2 ≠ b165 := Nat.ne_of_lt (Nat.lt_of_lt_of_eq (Nat.lt_of_lt_of_le (blk_lt x6) (s164).size) hb167)
        have ne174 : b20 ≠ b165 := Nat.ne_of_lt (Nat.lt_of_lt_of_eq (blk_lt x31) hb167)
        have ne175 : b88 ≠ b165 := Nat.ne_of_lt (Nat.lt_of_lt_of_eq (Nat.lt_of_lt_of_le (blk_lt x102) (s164).size) hb167)
        have nb176 : Nb b165 (.slice A0_c3_1 n0_c3_1 c0_c3_1) := nb_hi ho115 (Nat.le_of_eq hb167)
        have x31 := (k168.block _ (blk_lt x31)).trans x31
        have ho177 := own_kept ho115 k168
        refine M.sap (e := 51) (size := 4) (base := w.heap.size) (m := 1) (v := .slice A0_c3_1 n0_c3_1 c0_c3_1) (c := 1) s170 rfl rfl rfl rfl (by kernel_rfl) (by kernel_rfl) (by kernel_rfl) ho177 x169 (by kernel_rfl) (by kernel_rfl) (by omega) (by omega) (by have := ((SM.fr (B := B) c163 s170 (in2 (fun kq e => .inr (World.ownsRow.lt ho115 kq e).1) (fun kq e => .inr (by cases e; exact lo26))))).size; omega) (.inl (by simp)) (fun g178 cap179 w180 ho181 hg182 hat183 hlt184 s185 => ?_)
        refine F.nx ?_
        have nb186 : Nb B (.slice (some ⟨g178, 0, none⟩) (n0_c3_1 + 1) cap179) := nb_app nb0_c3_1_B (Nat.lt_of_lt_of_le (Cur.lt x113) (s170).size) hat183
        have nb187 : Nb b2 (.slice (some ⟨g178, 0, none⟩) (n0_c3_1 + 1) cap179) := nb_app nb0_c3_1_b2 (Nat.lt_of_lt_of_le (blk_lt x6) (s170).size) hat183
        have nb188 : Nb b20 (.slice (some ⟨g178, 0, none⟩) (n0_c3_1 + 1) cap179) := nb_app nb0_c3_1_b20 (blk_lt x31) hat183
        have x31 := (hg182.block _ (blk_lt x31) nb0_c3_1_b20).trans x31
        have nb189 : Nb b88 (.slice (some ⟨g178, 0, none⟩) (n0_c3_1 + 1) cap179) := nb_app nb98 (Nat.lt_of_lt_of_le (blk_lt x102) (s170).size) hat183
        have nb190 : Nb b165 (.slice (some ⟨g178, 0, none⟩) (n0_c3_1 + 1) cap179) := nb_app nb176 (blk_lt x169) hat183
        have x169 := (hg182.block _ (blk_lt x169) nb176).trans x169
        have ho181 := own_snocP (x := (Pp.mk (d0 + 1 + x61) (1 + x72) ((i : Nat) : Int) (1 + x80))) ho181
        refine F.q (v := .pointer (some ⟨b20, 1, none⟩)) (hr := (r_field (k := 1) rfl (ev_any (by kernel_rfl)) (by kernel_rfl))) (h := ?_)
        refine M.ss (v := .slice (some ⟨g178, 0, none⟩) (n0_c3_1 + 1) cap179) (j := 1) (news := [.slice (some ⟨g178, 0, none⟩) (n0_c3_1 + 1) cap179]) (cs' := #[.int .i64 (1 + x13), .slice (some ⟨g178, 0, none⟩) (n0_c3_1 + 1) cap179]) s185 rfl (by kernel_rfl) rfl rfl (by kernel_rfl) (by kernel_rfl) x31 (by kernel_rfl) (by kernel_rfl) (by simp) (by kernel_rfl) (by kernel_rfl) (.inl (by simp)) (fun w191 g192 x193 s194 => ?_)
        have x169 := (g192.block _ (blk_lt x169) (fun e9 => ne174 (Option.some.inj e9).symm)).trans x169
        have ho195 := own_grown ho181 g192 (fun j e1 e2 => by cases e2; exact nb188 e1.symm)
        refine F.endF [(0, .pointer (some ⟨B, 0, none⟩)), (2, .pointer (some ⟨b2, 0, none⟩)), (3, .pointer (some ⟨b20, 0, none⟩)), (4, .int .i64 (d0 + 1 + x61)), (5, .int .i64 ((i : Nat) : Int)), (6, .pointer (some ⟨b88, 0, none⟩)), (16, .bool true), (20, .bool false), (38, .bool false)] (fun U196 => ?_)
        have x113 := Cur.sm x113 s194 (ne2 nb0_c3_1_B (fun e9 => ne27 (Option.some.inj e9))) (in2 (fun j e => Nat.le_trans hN (World.ownsRow.lt ho115 j e).1) (fun j e => by cases e; exact Nat.le_trans hN lo26))
        have x6 := SM.blk s194 x6 (ne2 nb0_c3_1_b2 (fun e9 => ne28 (Option.some.inj e9)))
        have x102 := SM.blk s194 x102 (ne2 nb98 (fun e9 => ne97 (Option.some.inj e9).symm))
        have c197 := (SM.fr (B := B) c163 s194 (in2 (fun kq e => .inr (World.ownsRow.lt ho115 kq e).1) (fun kq e => .inr (by cases e; exact lo26))))
        refine h9 _ _ ?_
        refine W.region_quiet [(0, false), (1, false), (2, false)] (by kernel_rfl) ?_
        refine F.mv (v := .int .i64 ((i : Nat) : Int)) (h := ?_)
        refine F.q (v := .int .i64 ((i + 1 : Nat) : Int)) (hr := (r_add (m := ((i : Nat) : Int)) (n := 1) (z := ((i + 1 : Nat) : Int)) rfl (ev_any (by kernel_rfl)) (ev_any (by kernel_rfl)) (by omega) (by omega))) (h := ?_)
        refine F.as (v := .int .i64 ((i + 1 : Nat) : Int)) (h := ?_)
        refine F.endF [(0, .pointer (some ⟨B, 0, none⟩)), (2, .pointer (some ⟨b2, 0, none⟩)), (3, .pointer (some ⟨b20, 0, none⟩)), (4, .int .i64 (d0 + 1 + x61)), (5, .int .i64 ((i + 1 : Nat) : Int)), (6, .pointer (some ⟨b88, 0, none⟩)), (16, .bool true), (20, .bool false), (38, .bool false)] (fun U198 => ?_)
        exact h6 _ _ _ (by omega : (10 - (i + 1)) < _) ⟨i + 1, d0 + 1 + x61, (ps0 ++ [(Pp.mk (d0 + 1 + x61) (1 + x72) ((i : Nat) : Int) (1 + x80))]), (some ⟨g178, 0, none⟩), (n0_c3_1 + 1), cap179, (fun iU9 => lk [(0, .pointer (some ⟨B, 0, none⟩)), (2, .pointer (some ⟨b2, 0, none⟩)), (3, .pointer (some ⟨b20, 0, none⟩)), (4, .int .i64 (d0 + 1 + x61)), (5, .int .i64 ((i + 1 : Nat) : Int)), (6, .pointer (some ⟨b88, 0, none⟩)), (16, .bool true), (20, .bool false), (38, .bool false)] iU9 (U198 iU9)), (by kernel_rfl), rfl, (⟨by omega, by omega⟩), (⟨by omega, by omega⟩), (sm_snoc hps (sm_mk (by omega))), (by rw [snoc_len]; omega), (Cur.mono x113 (by omega)), x6, x193, ho195, nb186, nb187, nb188, c197⟩
  · refine F.q (v := .bool false) (hr := (r_leq (m := ((i : Nat) : Int)) (n := 1 + x13) rfl (ev_any (by kernel_rfl)) (ev_any (by kernel_rfl)) (decide_eq_false q43))) (h := ?_)
    refine F.endF [(0, .pointer (some ⟨B, 0, none⟩)), (2, .pointer (some ⟨b2, 0, none⟩)), (3, .pointer (some ⟨b20, 0, none⟩)), (4, .int .i64 d0), (5, .int .i64 ((i : Nat) : Int)), (16, .bool false)] (fun U199 => ?_)
    refine h8 _ _ ?_
    refine wp_cond_false (by kernel_rfl) ?_
    refine wp_exit ?_
    refine h4 _ _ ?_
    refine wp_seq_k (fun K16 h16 => ?_)
    refine wp_seq_k (fun K17 h17 => ?_)
    refine W.region_plain (row := (some B)) [(0, false), (1, true), (2, false)] (by kernel_rfl) ?_
    have s200 := SG.self wl0 (some B)
    refine F.mv (v := .pointer (some ⟨B, 0, none⟩)) (h := ?_)
    refine W.sc (vs := [.pointer (some ⟨B, 0, none⟩), .int .i64 4]) rfl rfl (by kernel_rfl) (by kernel_rfl) (by kernel_rfl) rfl (pick_any B N (k + 10 * i) 4 _ x18 (by omega) (by omega)) ?_
    rintro e w204 ⟨x201, rfl, hx202, x206, g205⟩
    have s207 := SG.of_grown s200 g205 (.inl rfl)
    refine ⟨_, rfl, s207, ?_⟩
    refine F.nx ?_
    have ho208 := own_grown ho0_c3_1 g205 (fun j e1 e2 => by cases e2; exact nb0_c3_1_B e1.symm)
    refine F.as (v := .int .i64 x201) (h := ?_)
    refine F.endF [(0, .pointer (some ⟨B, 0, none⟩)), (2, .pointer (some ⟨b2, 0, none⟩)), (3, .pointer (some ⟨b20, 0, none⟩)), (4, .int .i64 d0), (5, .int .i64 ((i : Nat) : Int)), (7, .int .i64 x201), (16, .bool false)] (fun U209 => ?_)
    have x6 := SG.blk s207 x6 (fun e9 => ne9 (Option.some.inj e9).symm)
    have x31 := SG.blk s207 x31 (fun e9 => ne27 (Option.some.inj e9).symm)
    have c210 := (SG.fr (B := B) c42 s207 (fun kq e => .inl (by cases e; rfl)))
    refine h17 _ _ ?_
    refine wp_block ?_
    refine loopK (fun am1 aa1 wl1 => ∃ (z : Int) (d1 : Int) (ps1 : List Pp) (A1_c3_1 : Option Addr) (n1_c3_1 : Nat) (c1_c3_1 : Nat) (U1 : Nat → Value), aa1 = ⟨(fr U1 [(0, .pointer (some ⟨B, 0, none⟩)), (2, .pointer (some ⟨b2, 0, none⟩)), (3, .pointer (some ⟨b20, 0, none⟩)), (4, .int .i64 d1), (5, .int .i64 ((i : Nat) : Int)), (7, .int .i64 z), (16, .bool false)] 97 0).toArray, []⟩ ∧ (am1 = z.toNat) ∧ (z ≤ 3) ∧ (0 ≤ d1 ∧ d1 ≤ 40 + 4 * (4 - z)) ∧ (∀ p, p ∈ ps1 → smP p) ∧ (ps1.length ≤ 10) ∧ (Cur wl1 B N (k + 200 + 10 * (4 - z.toNat))) ∧ (wl1.heap[b2]? = some (.cells #[.int .i64 0, .slice none 0 0] 31 (0, 0))) ∧ (wl1.heap[b20]? = some (.cells #[.int .i64 (1 + x13), .slice A1_c3_1 n1_c3_1 c1_c3_1] 31 (0, 0))) ∧ (wl1.ownsRow w.heap.size 51 4 (.slice A1_c3_1 n1_c3_1 c1_c3_1) n1_c3_1 (pipesV ps1)) ∧ (Nb B (.slice A1_c3_1 n1_c3_1 c1_c3_1)) ∧ (Nb b2 (.slice A1_c3_1 n1_c3_1 c1_c3_1)) ∧ (Nb b20 (.slice A1_c3_1 n1_c3_1 c1_c3_1)) ∧ (w.grownBy wl1 (some B))) (x201.toNat) ?_ ?_
    · exact ⟨x201, d0, ps0, A0_c3_1, n0_c3_1, c0_c3_1, (fun iU9 => lk [(0, .pointer (some ⟨B, 0, none⟩)), (2, .pointer (some ⟨b2, 0, none⟩)), (3, .pointer (some ⟨b20, 0, none⟩)), (4, .int .i64 d0), (5, .int .i64 ((i : Nat) : Int)), (7, .int .i64 x201), (16, .bool false)] iU9 (U209 iU9)), (by kernel_rfl), rfl, (by omega), (⟨by omega, by omega⟩), hps, (by omega), (Cur.mono x206 (by omega)), x6, x31, ho208, nb0_c3_1_B, nb0_c3_1_b2, nb0_c3_1_b20, c210⟩
    rintro am1 aa1 wl1 K18 h18 ⟨z, d1, ps1, A1_c3_1, n1_c3_1, c1_c3_1, U1, rfl, rfl, hz, hd1, hps1, hln1, x206, x6, x31, ho1_c3_1, nb1_c3_1_B, nb1_c3_1_b2, nb1_c3_1_b20, c211⟩
    have hl19 := rd_pipes_len (own_rd ho1_c3_1)
    refine wp_seq_k (fun K19 h19 => ?_)
    refine wp_seq_k (fun K20 h20 => ?_)
    refine W.region_quiet [(0, false), (1, false), (2, false), (3, false), (4, false), (5, false), (6, false), (7, false), (8, false), (9, false), (10, false), (11, false), (12, false)] (by kernel_rfl) ?_
    refine F.mv (v := .int .i64 z) (h := ?_)
    by_cases q212 : (z : Int) > (0 : Int)
    · refine F.q (v := .bool true) (hr := (r_gtr (m := z) (n := 0) rfl (ev_any (by kernel_rfl)) (ev_any (by kernel_rfl)) (decide_eq_true q212))) (h := ?_)
      refine F.mv (v := .bool true) (h := ?_)
      refine F.q (v := .pointer (some ⟨b20, 0, none⟩)) (hr := (r_field0 rfl (ev_any (by kernel_rfl)) (by kernel_rfl))) (h := ?_)
      refine F.ld (v := .int .i64 (1 + x13)) (hc := (eqS (blk_cell (j := 0) x31 (by kernel_rfl)))) (h := ?_)
      by_cases q213 : (1 + x13 : Int) > (1 : Int)
      · refine F.q (v := .bool true) (hr := (r_gtr (m := 1 + x13) (n := 1) rfl (ev_any (by kernel_rfl)) (ev_any (by kernel_rfl)) (decide_eq_true q213))) (h := ?_)
        refine F.q (v := .bool true) (hr := (r_pick (b := true) rfl (ev_any (by kernel_rfl)) (ev_any (by kernel_rfl)))) (h := ?_)
        refine F.mv (v := .bool true) (h := ?_)
        refine F.q (v := .pointer (some ⟨b20, 1, none⟩)) (hr := (r_field (k := 1) rfl (ev_any (by kernel_rfl)) (by kernel_rfl))) (h := ?_)
        refine F.ld (v := .slice A1_c3_1 n1_c3_1 c1_c3_1) (hc := (eqS (blk_cell (j := 1) x31 (by kernel_rfl)))) (h := ?_)
        refine F.q (v := .int .i64 ((n1_c3_1 : Nat) : Int)) (hr := (r_len (A := A1_c3_1) (n := n1_c3_1) (c := c1_c3_1) rfl (ev_any (by kernel_rfl)) (by kernel_rfl))) (h := ?_)
        by_cases q214 : (((n1_c3_1 : Nat) : Int) : Int) < (10 : Int)
        · refine F.q (v := .bool true) (hr := (r_lss (m := ((n1_c3_1 : Nat) : Int)) (n := 10) rfl (ev_any (by kernel_rfl)) (ev_any (by kernel_rfl)) (decide_eq_true q214))) (h := ?_)
          refine F.q (v := .bool true) (hr := (r_pick (b := true) rfl (ev_any (by kernel_rfl)) (ev_any (by kernel_rfl)))) (h := ?_)
          refine F.endF [(0, .pointer (some ⟨B, 0, none⟩)), (2, .pointer (some ⟨b2, 0, none⟩)), (3, .pointer (some ⟨b20, 0, none⟩)), (4, .int .i64 d1), (5, .int .i64 ((i : Nat) : Int)), (7, .int .i64 z), (16, .bool false), (67, .bool true)] (fun U215 => ?_)
          refine h20 _ _ ?_
          refine wp_cond_true (by kernel_rfl) ?_
          refine wp_skip ?_
          refine h19 _ _ ?_
          refine wp_seq_k (fun K21 h21 => ?_)
          refine wp_block ?_
          refine wp_seq_k (fun K22 h22 => ?_)
          refine W.region_plain (row := (some B)) [(0, false), (1, false), (2, false), (3, true), (4, false), (5, false)] (by kernel_rfl) ?_
          have s216 := SG.self wl1 (some B)
          refine F.mv (v := .int .i64 d1) (h := ?_)
          refine F.q (v := .int .i64 (d1 + 1)) (hr := (r_add (m := d1) (n := 1) (z := d1 + 1) rfl (ev_any (by kernel_rfl)) (ev_any (by kernel_rfl)) (rfl) (by omega))) (h := ?_)
          refine F.mv (v := .pointer (some ⟨B, 0, none⟩)) (h := ?_)
          refine W.sc (vs := [.pointer (some ⟨B, 0, none⟩), .int .i64 3]) rfl rfl (by kernel_rfl) (by kernel_rfl) (by kernel_rfl) rfl (pick_any B N (k + 200 + 10 * (4 - z.toNat)) 3 _ x206 (by omega) (by omega)) ?_
          rintro e w220 ⟨x217, rfl, hx218, x222, g221⟩
          have s223 := SG.of_grown s216 g221 (.inl rfl)
          refine ⟨_, rfl, s223, ?_⟩
          refine F.nx ?_
          have ho224 := own_grown ho1_c3_1 g221 (fun j e1 e2 => by cases e2; exact nb1_c3_1_B e1.symm)
          refine F.q (v := .int .i64 (d1 + 1 + x217)) (hr := (r_add (m := d1 + 1) (n := x217) (z := d1 + 1 + x217) rfl (ev_any (by kernel_rfl)) (ev_any (by kernel_rfl)) (rfl) (by omega))) (h := ?_)
          refine F.as (v := .int .i64 (d1 + 1 + x217)) (h := ?_)
          refine F.endF [(0, .pointer (some ⟨B, 0, none⟩)), (2, .pointer (some ⟨b2, 0, none⟩)), (3, .pointer (some ⟨b20, 0, none⟩)), (4, .int .i64 (d1 + 1 + x217)), (5, .int .i64 ((i : Nat) : Int)), (7, .int .i64 z), (16, .bool false), (67, .bool true)] (fun U225 => ?_)
          have x6 := SG.blk s223 x6 (fun e9 => ne9 (Option.some.inj e9).symm)
          have x31 := SG.blk s223 x31 (fun e9 => ne27 (Option.some.inj e9).symm)
          have c226 := (SG.fr (B := B) c211 s223 (fun kq e => .inl (by cases e; rfl)))
          refine h22 _ _ ?_
          refine wp_seq_k (fun K23 h23 => ?_)
          refine W.region_plain (row := (some B)) [(0, false), (1, false), (2, false), (3, true), (4, false), (5, false)] (by kernel_rfl) ?_
          have s227 := SG.self w220 (some B)
          refine F.mv (v := .pointer (some ⟨B, 0, none⟩)) (h := ?_)
          refine F.q (v := .pointer (some ⟨b20, 0, none⟩)) (hr := (r_field0 rfl (ev_any (by kernel_rfl)) (by kernel_rfl))) (h := ?_)
          refine F.ld (v := .int .i64 (1 + x13)) (hc := (sgS (blk_cell (j := 0) x31 (by kernel_rfl)) (fun e9 => ne27 (Option.some.inj e9).symm))) (h := ?_)
          refine W.sc (vs := [.pointer (some ⟨B, 0, none⟩), .int .i64 (1 + x13)]) rfl rfl (by kernel_rfl) (by kernel_rfl) (by kernel_rfl) rfl (pick_any B N (k + 200 + 10 * (4 - z.toNat) + 2) (1 + x13) _ x222 (by omega) (by omega)) ?_
          rintro e w231 ⟨x228, rfl, hx229, x233, g232⟩
          have s234 := SG.of_grown s227 g232 (.inl rfl)
          refine ⟨_, rfl, s234, ?_⟩
          refine F.nx ?_
          have ho235 := own_grown ho224 g232 (fun j e1 e2 => by cases e2; exact nb1_c3_1_B e1.symm)
          refine F.q (v := .int .i64 (1 + x228)) (hr := (r_add (m := 1) (n := x228) (z := 1 + x228) rfl (ev_any (by kernel_rfl)) (ev_any (by kernel_rfl)) (rfl) (by omega))) (h := ?_)
          refine F.as (v := .int .i64 (1 + x228)) (h := ?_)
          refine F.endF [(0, .pointer (some ⟨B, 0, none⟩)), (2, .pointer (some ⟨b2, 0, none⟩)), (3, .pointer (some ⟨b20, 0, none⟩)), (4, .int .i64 (d1 + 1 + x217)), (5, .int .i64 ((i : Nat) : Int)), (7, .int .i64 z), (8, .int .i64 (1 + x228)), (16, .bool false), (67, .bool true)] (fun U236 => ?_)
          have x6 := SG.blk s234 x6 (fun e9 => ne9 (Option.some.inj e9).symm)
          have x31 := SG.blk s234 x31 (fun e9 => ne27 (Option.some.inj e9).symm)
          have c237 := (SG.fr (B := B) c226 s234 (fun kq e => .inl (by cases e; rfl)))
          refine h23 _ _ ?_
          refine M.region_sch (row := [(some B), (Value.ownBlock (.slice A1_c3_1 n1_c3_1 c1_c3_1)), (some b20)]) (Sch.app [(0, false), (2, false), (3, false), (4, false), (5, false), (9, false)] (.br3 1 6 10 (Sch.app [] (.br 6 10 (Sch.of [(7, false), (8, false), (10, true), (11, false), (12, false), (13, true), (14, true), (15, false), (16, true)]) (Sch.of [(11, false), (6, true), (7, false), (8, false), (12, false), (13, true), (14, true), (15, false), (16, true)]))) (Sch.app [(7, false), (8, false)] (.br 1 10 (Sch.of [(10, true), (11, false), (12, false), (13, true), (14, true), (15, false), (16, true)]) (Sch.app [(11, false), (12, false)] (.br 1 13 (Sch.of [(13, true), (14, true), (15, false), (16, true)]) (Sch.of [(1, true), (14, true), (15, false), (16, true)]))))) (Sch.app [(11, false)] (.br 1 6 (Sch.of [(6, true), (7, false), (8, false), (12, false), (13, true), (14, true), (15, false), (16, true)]) (Sch.app [(7, false), (8, false), (12, false)] (.br 1 13 (Sch.of [(13, true), (14, true), (15, false), (16, true)]) (Sch.of [(1, true), (14, true), (15, false), (16, true)]))))))) (by kernel_rfl) (by kernel_rfl) (fun _ d _ _ _ h => by cases d <;> exact h) (by kernel_rfl) (fun w238 e239 s240 => ?_)
          have ho241 := own_heap ho235 e239
          have x242 := Cur.heap x233 e239
          have x243 := (heap_same e239 x31)
          refine F.q (v := .pointer (some ⟨b20, 1, none⟩)) (hr := (r_field (k := 1) rfl (ev_any (by kernel_rfl)) (by kernel_rfl))) (h := ?_)
          refine F.mv (v := .int .i64 (d1 + 1 + x217)) (h := ?_)
          refine F.mv (v := .int .i64 (1 + x228)) (h := ?_)
          refine F.mv (v := .int .i64 (1 + x228)) (h := ?_)
          refine F.q (v := .pointer (some ⟨b20, 0, none⟩)) (hr := (r_field0 rfl (ev_any (by kernel_rfl)) (by kernel_rfl))) (h := ?_)
          refine F.mv (v := .pointer (some ⟨B, 0, none⟩)) (h := ?_)
          refine W.sbr3 ?_ ?_ ?_
          · refine W.slq (v := .slice A1_c3_1 n1_c3_1 c1_c3_1) s240 rfl (r_load rfl (by kernel_rfl) (by kernel_rfl) (eqS (blk_cell (j := 1) x243 (by kernel_rfl)))) (by kernel_rfl) rfl ?_
            refine F.nx ?_
            refine W.sbr ?_ ?_
            · refine W.slq (v := .int .i64 (1 + x13)) s240 rfl (r_load rfl (by kernel_rfl) (by kernel_rfl) (eqS (blk_cell (j := 0) x243 (by kernel_rfl)))) (by kernel_rfl) rfl ?_
              refine F.nx ?_
              have hr1 := Int.emod_nonneg (1 + x228) (show (1 + x13) ≠ 0 by omega)
              have hr2 := Int.emod_lt_of_pos (1 + x228) (show 0 < (1 + x13) by omega)
              refine F.q (v := .int .i64 ((1 + x228) % (1 + x13))) (hr := (r_remK (k := .i64) (m := 1 + x228) (n := 1 + x13) (z := ((1 + x228) % (1 + x13))) rfl (ev_any (by kernel_rfl)) (ev_any (by kernel_rfl)) (by omega) (Int.tmod_eq_emod_of_nonneg (by omega)))) (h := ?_)
              refine F.q (v := .int .i64 (1 + ((1 + x228) % (1 + x13)))) (hr := (r_add (m := 1) (n := ((1 + x228) % (1 + x13))) (z := 1 + ((1 + x228) % (1 + x13))) rfl (ev_any (by kernel_rfl)) (ev_any (by kernel_rfl)) (rfl) (by omega))) (h := ?_)
              refine W.sc (vs := [.pointer (some ⟨B, 0, none⟩), .int .i64 9]) rfl rfl (by kernel_rfl) (by kernel_rfl) (by kernel_rfl) rfl (pick_any B N ((k + 200 + 10 * (4 - z.toNat) + 2) + 2) 9 _ x242 (by omega) (by omega)) ?_
              rintro e w247 ⟨x244, rfl, hx245, x249, g248⟩
              have s250 := SM.of_grown s240 g248 (.inl (by simp))
              refine ⟨_, rfl, s250, ?_⟩
              refine F.nx ?_
              have x243 := (g248.block _ (blk_lt x243) (fun e9 => ne27 (Option.some.inj e9).symm)).trans x243
              have ho251 := own_grown ho241 g248 (fun j e1 e2 => by cases e2; exact nb1_c3_1_B e1.symm)
              refine F.q (v := .int .i64 (1 + x244)) (hr := (r_add (m := 1) (n := x244) (z := 1 + x244) rfl (ev_any (by kernel_rfl)) (ev_any (by kernel_rfl)) (rfl) (by omega))) (h := ?_)
              refine F.q (v := .agg #[.int .i64 (d1 + 1 + x217), .int .i64 (1 + x228), .int .i64 (1 + ((1 + x228) % (1 + x13))), .int .i64 (1 + x244)]) (hr := (r_build rfl (vs := [(0, .int .i64 (d1 + 1 + x217)), (1, .int .i64 (1 + x228)), (2, .int .i64 (1 + ((1 + x228) % (1 + x13)))), (3, .int .i64 (1 + x244))]) (by kernel_rfl) (by kernel_rfl))) (h := ?_)
              refine M.sn (fun b => .slice (some ⟨b, 0, none⟩) 1 1) #[.int .i64 (d1 + 1 + x217), .int .i64 (1 + x228), .int .i64 (1 + ((1 + x228) % (1 + x13))), .int .i64 (1 + x244)] 51 s250 rfl (by kernel_rfl) rfl (fun _ => by kernel_rfl) (fun b252 w253 hb254 k255 x256 s257 => ?_)
              refine F.nx ?_
              have lo258 : w.heap.size ≤ b252 := Nat.le_trans ((SM.fr (B := B) c237 s250 (in3 (fun kq e => .inl (by cases e; rfl)) (fun kq e => .inr (World.ownsRow.lt ho235 kq e).1) (fun kq e => .inr (by cases e; exact lo26))))).size (Nat.le_of_eq hb254)
              have ne259 : B ≠ b252 := Nat.ne_of_lt (Nat.lt_of_lt_of_eq (Cur.lt x249) hb254)
              have ne260 : b2 ≠ b252 := Nat.ne_of_lt (Nat.lt_of_lt_of_eq (Nat.lt_of_lt_of_le (blk_lt x6) (s250).size) hb254)
              have ne261 : b20 ≠ b252 := Nat.ne_of_lt (Nat.lt_of_lt_of_eq (blk_lt x243) hb254)
              have nb262 : Nb b252 (.slice A1_c3_1 n1_c3_1 c1_c3_1) := nb_hi ho251 (Nat.le_of_eq hb254)
              have x249 := Cur.below x249 k255
              have x243 := (k255.block _ (blk_lt x243)).trans x243
              have ho263 := own_kept ho251 k255
              refine M.sap (e := 51) (size := 4) (base := w.heap.size) (m := 1) (v := .slice A1_c3_1 n1_c3_1 c1_c3_1) (c := 1) s257 rfl rfl rfl rfl (by kernel_rfl) (by kernel_rfl) (by kernel_rfl) ho263 x256 (by kernel_rfl) (by kernel_rfl) (by omega) (by omega) (by have := ((SM.fr (B := B) c237 s257 (in3 (fun kq e => .inl (by cases e; rfl)) (fun kq e => .inr (World.ownsRow.lt ho235 kq e).1) (fun kq e => .inr (by cases e; exact lo26))))).size; omega) (.inl (by simp)) (fun g264 cap265 w266 ho267 hg268 hat269 hlt270 s271 => ?_)
              refine F.nx ?_
              have nb272 : Nb B (.slice (some ⟨g264, 0, none⟩) (n1_c3_1 + 1) cap265) := nb_app nb1_c3_1_B (Cur.lt x249) hat269
              have x249 := Cur.grown x249 hg268 nb1_c3_1_B (fun j e => Nat.le_trans hN (World.ownsRow.lt ho263 j e).1)
              have nb273 : Nb b2 (.slice (some ⟨g264, 0, none⟩) (n1_c3_1 + 1) cap265) := nb_app nb1_c3_1_b2 (Nat.lt_of_lt_of_le (blk_lt x6) (s257).size) hat269
              have nb274 : Nb b20 (.slice (some ⟨g264, 0, none⟩) (n1_c3_1 + 1) cap265) := nb_app nb1_c3_1_b20 (blk_lt x243) hat269
              have x243 := (hg268.block _ (blk_lt x243) nb1_c3_1_b20).trans x243
              have nb275 : Nb b252 (.slice (some ⟨g264, 0, none⟩) (n1_c3_1 + 1) cap265) := nb_app nb262 (blk_lt x256) hat269
              have x256 := (hg268.block _ (blk_lt x256) nb262).trans x256
              have ho267 := own_snocP (x := (Pp.mk (d1 + 1 + x217) (1 + x228) (1 + ((1 + x228) % (1 + x13))) (1 + x244))) ho267
              refine F.q (v := .pointer (some ⟨b20, 1, none⟩)) (hr := (r_field (k := 1) rfl (ev_any (by kernel_rfl)) (by kernel_rfl))) (h := ?_)
              refine M.ss (v := .slice (some ⟨g264, 0, none⟩) (n1_c3_1 + 1) cap265) (j := 1) (news := [.slice (some ⟨g264, 0, none⟩) (n1_c3_1 + 1) cap265]) (cs' := #[.int .i64 (1 + x13), .slice (some ⟨g264, 0, none⟩) (n1_c3_1 + 1) cap265]) s271 rfl (by kernel_rfl) rfl rfl (by kernel_rfl) (by kernel_rfl) x243 (by kernel_rfl) (by kernel_rfl) (by simp) (by kernel_rfl) (by kernel_rfl) (.inl (by simp)) (fun w276 g277 x278 s279 => ?_)
              have x249 := Cur.grown x249 g277 (fun e9 => ne27 (Option.some.inj e9)) (fun j e => by cases e; exact Nat.le_trans hN lo26)
              have x256 := (g277.block _ (blk_lt x256) (fun e9 => ne261 (Option.some.inj e9).symm)).trans x256
              have ho280 := own_grown ho267 g277 (fun j e1 e2 => by cases e2; exact nb274 e1.symm)
              refine F.endF [(0, .pointer (some ⟨B, 0, none⟩)), (2, .pointer (some ⟨b2, 0, none⟩)), (3, .pointer (some ⟨b20, 0, none⟩)), (4, .int .i64 (d1 + 1 + x217)), (5, .int .i64 ((i : Nat) : Int)), (7, .int .i64 z), (8, .int .i64 (1 + x228)), (16, .bool false), (67, .bool true)] (fun U281 => ?_)
              have x6 := SM.blk s279 x6 (ne3 (fun e9 => ne9 (Option.some.inj e9).symm) nb1_c3_1_b2 (fun e9 => ne28 (Option.some.inj e9)))
              have c282 := (SM.fr (B := B) c237 s279 (in3 (fun kq e => .inl (by cases e; rfl)) (fun kq e => .inr (World.ownsRow.lt ho235 kq e).1) (fun kq e => .inr (by cases e; exact lo26))))
              refine h21 _ _ ?_
              refine W.region_quiet [(0, false), (1, false), (2, false)] (by kernel_rfl) ?_
              refine F.mv (v := .int .i64 z) (h := ?_)
              refine F.q (v := .int .i64 (z - 1)) (hr := (r_sub (m := z) (n := 1) (z := z - 1) rfl (ev_any (by kernel_rfl)) (ev_any (by kernel_rfl)) (rfl) (by omega))) (h := ?_)
              refine F.as (v := .int .i64 (z - 1)) (h := ?_)
              refine F.endF [(0, .pointer (some ⟨B, 0, none⟩)), (2, .pointer (some ⟨b2, 0, none⟩)), (3, .pointer (some ⟨b20, 0, none⟩)), (4, .int .i64 (d1 + 1 + x217)), (5, .int .i64 ((i : Nat) : Int)), (7, .int .i64 (z - 1)), (8, .int .i64 (1 + x228)), (16, .bool false), (67, .bool true)] (fun U283 => ?_)
              exact h18 _ _ _ (by omega : ((z - 1).toNat) < _) ⟨z - 1, d1 + 1 + x217, (ps1 ++ [(Pp.mk (d1 + 1 + x217) (1 + x228) (1 + ((1 + x228) % (1 + x13))) (1 + x244))]), (some ⟨g264, 0, none⟩), (n1_c3_1 + 1), cap265, (fun iU9 => lk [(0, .pointer (some ⟨B, 0, none⟩)), (2, .pointer (some ⟨b2, 0, none⟩)), (3, .pointer (some ⟨b20, 0, none⟩)), (4, .int .i64 (d1 + 1 + x217)), (5, .int .i64 ((i : Nat) : Int)), (7, .int .i64 (z - 1)), (8, .int .i64 (1 + x228)), (16, .bool false), (67, .bool true)] iU9 (U283 iU9)), (by kernel_rfl), rfl, (by omega), (⟨by omega, by omega⟩), (sm_snoc hps1 (sm_mk (by omega))), (by rw [snoc_len]; omega), (Cur.mono x249 (by omega)), x6, x278, ho280, nb272, nb273, nb274, c282⟩
            · refine W.sc (vs := [.pointer (some ⟨B, 0, none⟩), .int .i64 9]) rfl rfl (by kernel_rfl) (by kernel_rfl) (by kernel_rfl) rfl (pick_any B N ((k + 200 + 10 * (4 - z.toNat) + 2) + 2) 9 _ x242 (by omega) (by omega)) ?_
              rintro e w287 ⟨x284, rfl, hx285, x289, g288⟩
              have s290 := SM.of_grown s240 g288 (.inl (by simp))
              refine ⟨_, rfl, s290, ?_⟩
              refine F.nx ?_
              have x243 := (g288.block _ (blk_lt x243) (fun e9 => ne27 (Option.some.inj e9).symm)).trans x243
              have ho291 := own_grown ho241 g288 (fun j e1 e2 => by cases e2; exact nb1_c3_1_B e1.symm)
              refine F.q (v := .int .i64 (1 + x284)) (hr := (r_add (m := 1) (n := x284) (z := 1 + x284) rfl (ev_any (by kernel_rfl)) (ev_any (by kernel_rfl)) (rfl) (by omega))) (h := ?_)
              refine W.slq (v := .int .i64 (1 + x13)) s290 rfl (r_load rfl (by kernel_rfl) (by kernel_rfl) (eqS (blk_cell (j := 0) x243 (by kernel_rfl)))) (by kernel_rfl) rfl ?_
              refine F.nx ?_
              have hr1 := Int.emod_nonneg (1 + x228) (show (1 + x13) ≠ 0 by omega)
              have hr2 := Int.emod_lt_of_pos (1 + x228) (show 0 < (1 + x13) by omega)
              refine F.q (v := .int .i64 ((1 + x228) % (1 + x13))) (hr := (r_remK (k := .i64) (m := 1 + x228) (n := 1 + x13) (z := ((1 + x228) % (1 + x13))) rfl (ev_any (by kernel_rfl)) (ev_any (by kernel_rfl)) (by omega) (Int.tmod_eq_emod_of_nonneg (by omega)))) (h := ?_)
              refine F.q (v := .int .i64 (1 + ((1 + x228) % (1 + x13)))) (hr := (r_add (m := 1) (n := ((1 + x228) % (1 + x13))) (z := 1 + ((1 + x228) % (1 + x13))) rfl (ev_any (by kernel_rfl)) (ev_any (by kernel_rfl)) (rfl) (by omega))) (h := ?_)
              refine F.q (v := .agg #[.int .i64 (d1 + 1 + x217), .int .i64 (1 + x228), .int .i64 (1 + ((1 + x228) % (1 + x13))), .int .i64 (1 + x284)]) (hr := (r_build rfl (vs := [(0, .int .i64 (d1 + 1 + x217)), (1, .int .i64 (1 + x228)), (2, .int .i64 (1 + ((1 + x228) % (1 + x13)))), (3, .int .i64 (1 + x284))]) (by kernel_rfl) (by kernel_rfl))) (h := ?_)
              refine M.sn (fun b => .slice (some ⟨b, 0, none⟩) 1 1) #[.int .i64 (d1 + 1 + x217), .int .i64 (1 + x228), .int .i64 (1 + ((1 + x228) % (1 + x13))), .int .i64 (1 + x284)] 51 s290 rfl (by kernel_rfl) rfl (fun _ => by kernel_rfl) (fun b292 w293 hb294 k295 x296 s297 => ?_)
              refine F.nx ?_
              have lo298 : w.heap.size ≤ b292 := Nat.le_trans ((SM.fr (B := B) c237 s290 (in3 (fun kq e => .inl (by cases e; rfl)) (fun kq e => .inr (World.ownsRow.lt ho235 kq e).1) (fun kq e => .inr (by cases e; exact lo26))))).size (Nat.le_of_eq hb294)
              have ne299 : B ≠ b292 := Nat.ne_of_lt (Nat.lt_of_lt_of_eq (Cur.lt x289) hb294)
              have ne300 : b2 ≠ b292 := Nat.ne_of_lt (Nat.lt_of_lt_of_eq (Nat.lt_of_lt_of_le (blk_lt x6) (s290).size) hb294)
              have ne301 : b20 ≠ b292 := Nat.ne_of_lt (Nat.lt_of_lt_of_eq (blk_lt x243) hb294)
              have nb302 : Nb b292 (.slice A1_c3_1 n1_c3_1 c1_c3_1) := nb_hi ho291 (Nat.le_of_eq hb294)
              have x289 := Cur.below x289 k295
              have x243 := (k295.block _ (blk_lt x243)).trans x243
              have ho303 := own_kept ho291 k295
              refine M.sap (e := 51) (size := 4) (base := w.heap.size) (m := 1) (v := .slice A1_c3_1 n1_c3_1 c1_c3_1) (c := 1) s297 rfl rfl rfl rfl (by kernel_rfl) (by kernel_rfl) (by kernel_rfl) ho303 x296 (by kernel_rfl) (by kernel_rfl) (by omega) (by omega) (by have := ((SM.fr (B := B) c237 s297 (in3 (fun kq e => .inl (by cases e; rfl)) (fun kq e => .inr (World.ownsRow.lt ho235 kq e).1) (fun kq e => .inr (by cases e; exact lo26))))).size; omega) (.inl (by simp)) (fun g304 cap305 w306 ho307 hg308 hat309 hlt310 s311 => ?_)
              refine F.nx ?_
              have nb312 : Nb B (.slice (some ⟨g304, 0, none⟩) (n1_c3_1 + 1) cap305) := nb_app nb1_c3_1_B (Cur.lt x289) hat309
              have x289 := Cur.grown x289 hg308 nb1_c3_1_B (fun j e => Nat.le_trans hN (World.ownsRow.lt ho303 j e).1)
              have nb313 : Nb b2 (.slice (some ⟨g304, 0, none⟩) (n1_c3_1 + 1) cap305) := nb_app nb1_c3_1_b2 (Nat.lt_of_lt_of_le (blk_lt x6) (s297).size) hat309
              have nb314 : Nb b20 (.slice (some ⟨g304, 0, none⟩) (n1_c3_1 + 1) cap305) := nb_app nb1_c3_1_b20 (blk_lt x243) hat309
              have x243 := (hg308.block _ (blk_lt x243) nb1_c3_1_b20).trans x243
              have nb315 : Nb b292 (.slice (some ⟨g304, 0, none⟩) (n1_c3_1 + 1) cap305) := nb_app nb302 (blk_lt x296) hat309
              have x296 := (hg308.block _ (blk_lt x296) nb302).trans x296
              have ho307 := own_snocP (x := (Pp.mk (d1 + 1 + x217) (1 + x228) (1 + ((1 + x228) % (1 + x13))) (1 + x284))) ho307
              refine F.q (v := .pointer (some ⟨b20, 1, none⟩)) (hr := (r_field (k := 1) rfl (ev_any (by kernel_rfl)) (by kernel_rfl))) (h := ?_)
              refine M.ss (v := .slice (some ⟨g304, 0, none⟩) (n1_c3_1 + 1) cap305) (j := 1) (news := [.slice (some ⟨g304, 0, none⟩) (n1_c3_1 + 1) cap305]) (cs' := #[.int .i64 (1 + x13), .slice (some ⟨g304, 0, none⟩) (n1_c3_1 + 1) cap305]) s311 rfl (by kernel_rfl) rfl rfl (by kernel_rfl) (by kernel_rfl) x243 (by kernel_rfl) (by kernel_rfl) (by simp) (by kernel_rfl) (by kernel_rfl) (.inl (by simp)) (fun w316 g317 x318 s319 => ?_)
              have x289 := Cur.grown x289 g317 (fun e9 => ne27 (Option.some.inj e9)) (fun j e => by cases e; exact Nat.le_trans hN lo26)
              have x296 := (g317.block _ (blk_lt x296) (fun e9 => ne301 (Option.some.inj e9).symm)).trans x296
              have ho320 := own_grown ho307 g317 (fun j e1 e2 => by cases e2; exact nb314 e1.symm)
              refine F.endF [(0, .pointer (some ⟨B, 0, none⟩)), (2, .pointer (some ⟨b2, 0, none⟩)), (3, .pointer (some ⟨b20, 0, none⟩)), (4, .int .i64 (d1 + 1 + x217)), (5, .int .i64 ((i : Nat) : Int)), (7, .int .i64 z), (8, .int .i64 (1 + x228)), (16, .bool false), (67, .bool true)] (fun U321 => ?_)
              have x6 := SM.blk s319 x6 (ne3 (fun e9 => ne9 (Option.some.inj e9).symm) nb1_c3_1_b2 (fun e9 => ne28 (Option.some.inj e9)))
              have c322 := (SM.fr (B := B) c237 s319 (in3 (fun kq e => .inl (by cases e; rfl)) (fun kq e => .inr (World.ownsRow.lt ho235 kq e).1) (fun kq e => .inr (by cases e; exact lo26))))
              refine h21 _ _ ?_
              refine W.region_quiet [(0, false), (1, false), (2, false)] (by kernel_rfl) ?_
              refine F.mv (v := .int .i64 z) (h := ?_)
              refine F.q (v := .int .i64 (z - 1)) (hr := (r_sub (m := z) (n := 1) (z := z - 1) rfl (ev_any (by kernel_rfl)) (ev_any (by kernel_rfl)) (rfl) (by omega))) (h := ?_)
              refine F.as (v := .int .i64 (z - 1)) (h := ?_)
              refine F.endF [(0, .pointer (some ⟨B, 0, none⟩)), (2, .pointer (some ⟨b2, 0, none⟩)), (3, .pointer (some ⟨b20, 0, none⟩)), (4, .int .i64 (d1 + 1 + x217)), (5, .int .i64 ((i : Nat) : Int)), (7, .int .i64 (z - 1)), (8, .int .i64 (1 + x228)), (16, .bool false), (67, .bool true)] (fun U323 => ?_)
              exact h18 _ _ _ (by omega : ((z - 1).toNat) < _) ⟨z - 1, d1 + 1 + x217, (ps1 ++ [(Pp.mk (d1 + 1 + x217) (1 + x228) (1 + ((1 + x228) % (1 + x13))) (1 + x284))]), (some ⟨g304, 0, none⟩), (n1_c3_1 + 1), cap305, (fun iU9 => lk [(0, .pointer (some ⟨B, 0, none⟩)), (2, .pointer (some ⟨b2, 0, none⟩)), (3, .pointer (some ⟨b20, 0, none⟩)), (4, .int .i64 (d1 + 1 + x217)), (5, .int .i64 ((i : Nat) : Int)), (7, .int .i64 (z - 1)), (8, .int .i64 (1 + x228)), (16, .bool false), (67, .bool true)] iU9 (U323 iU9)), (by kernel_rfl), rfl, (by omega), (⟨by omega, by omega⟩), (sm_snoc hps1 (sm_mk (by omega))), (by rw [snoc_len]; omega), (Cur.mono x289 (by omega)), x6, x318, ho320, nb312, nb313, nb314, c322⟩
          · refine W.slq (v := .int .i64 (1 + x13)) s240 rfl (r_load rfl (by kernel_rfl) (by kernel_rfl) (eqS (blk_cell (j := 0) x243 (by kernel_rfl)))) (by kernel_rfl) rfl ?_
            refine F.nx ?_
            have hr1 := Int.emod_nonneg (1 + x228) (show (1 + x13) ≠ 0 by omega)
            have hr2 := Int.emod_lt_of_pos (1 + x228) (show 0 < (1 + x13) by omega)
            refine F.q (v := .int .i64 ((1 + x228) % (1 + x13))) (hr := (r_remK (k := .i64) (m := 1 + x228) (n := 1 + x13) (z := ((1 + x228) % (1 + x13))) rfl (ev_any (by kernel_rfl)) (ev_any (by kernel_rfl)) (by omega) (Int.tmod_eq_emod_of_nonneg (by omega)))) (h := ?_)
            refine F.q (v := .int .i64 (1 + ((1 + x228) % (1 + x13)))) (hr := (r_add (m := 1) (n := ((1 + x228) % (1 + x13))) (z := 1 + ((1 + x228) % (1 + x13))) rfl (ev_any (by kernel_rfl)) (ev_any (by kernel_rfl)) (rfl) (by omega))) (h := ?_)
            refine W.sbr ?_ ?_
            · refine W.slq (v := .slice A1_c3_1 n1_c3_1 c1_c3_1) s240 rfl (r_load rfl (by kernel_rfl) (by kernel_rfl) (eqS (blk_cell (j := 1) x243 (by kernel_rfl)))) (by kernel_rfl) rfl ?_
              refine F.nx ?_
              refine W.sc (vs := [.pointer (some ⟨B, 0, none⟩), .int .i64 9]) rfl rfl (by kernel_rfl) (by kernel_rfl) (by kernel_rfl) rfl (pick_any B N ((k + 200 + 10 * (4 - z.toNat) + 2) + 2) 9 _ x242 (by omega) (by omega)) ?_
              rintro e w327 ⟨x324, rfl, hx325, x329, g328⟩
              have s330 := SM.of_grown s240 g328 (.inl (by simp))
              refine ⟨_, rfl, s330, ?_⟩
              refine F.nx ?_
              have x243 := (g328.block _ (blk_lt x243) (fun e9 => ne27 (Option.some.inj e9).symm)).trans x243
              have ho331 := own_grown ho241 g328 (fun j e1 e2 => by cases e2; exact nb1_c3_1_B e1.symm)
              refine F.q (v := .int .i64 (1 + x324)) (hr := (r_add (m := 1) (n := x324) (z := 1 + x324) rfl (ev_any (by kernel_rfl)) (ev_any (by kernel_rfl)) (rfl) (by omega))) (h := ?_)
              refine F.q (v := .agg #[.int .i64 (d1 + 1 + x217), .int .i64 (1 + x228), .int .i64 (1 + ((1 + x228) % (1 + x13))), .int .i64 (1 + x324)]) (hr := (r_build rfl (vs := [(0, .int .i64 (d1 + 1 + x217)), (1, .int .i64 (1 + x228)), (2, .int .i64 (1 + ((1 + x228) % (1 + x13)))), (3, .int .i64 (1 + x324))]) (by kernel_rfl) (by kernel_rfl))) (h := ?_)
              refine M.sn (fun b => .slice (some ⟨b, 0, none⟩) 1 1) #[.int .i64 (d1 + 1 + x217), .int .i64 (1 + x228), .int .i64 (1 + ((1 + x228) % (1 + x13))), .int .i64 (1 + x324)] 51 s330 rfl (by kernel_rfl) rfl (fun _ => by kernel_rfl) (fun b332 w333 hb334 k335 x336 s337 => ?_)
              refine F.nx ?_
              have lo338 : w.heap.size ≤ b332 := Nat.le_trans ((SM.fr (B := B) c237 s330 (in3 (fun kq e => .inl (by cases e; rfl)) (fun kq e => .inr (World.ownsRow.lt ho235 kq e).1) (fun kq e => .inr (by cases e; exact lo26))))).size (Nat.le_of_eq hb334)
              have ne339 : B ≠ b332 := Nat.ne_of_lt (Nat.lt_of_lt_of_eq (Cur.lt x329) hb334)
              have ne340 : b2 ≠ b332 := Nat.ne_of_lt (Nat.lt_of_lt_of_eq (Nat.lt_of_lt_of_le (blk_lt x6) (s330).size) hb334)
              have ne341 : b20 ≠ b332 := Nat.ne_of_lt (Nat.lt_of_lt_of_eq (blk_lt x243) hb334)
              have nb342 : Nb b332 (.slice A1_c3_1 n1_c3_1 c1_c3_1) := nb_hi ho331 (Nat.le_of_eq hb334)
              have x329 := Cur.below x329 k335
              have x243 := (k335.block _ (blk_lt x243)).trans x243
              have ho343 := own_kept ho331 k335
              refine M.sap (e := 51) (size := 4) (base := w.heap.size) (m := 1) (v := .slice A1_c3_1 n1_c3_1 c1_c3_1) (c := 1) s337 rfl rfl rfl rfl (by kernel_rfl) (by kernel_rfl) (by kernel_rfl) ho343 x336 (by kernel_rfl) (by kernel_rfl) (by omega) (by omega) (by have := ((SM.fr (B := B) c237 s337 (in3 (fun kq e => .inl (by cases e; rfl)) (fun kq e => .inr (World.ownsRow.lt ho235 kq e).1) (fun kq e => .inr (by cases e; exact lo26))))).size; omega) (.inl (by simp)) (fun g344 cap345 w346 ho347 hg348 hat349 hlt350 s351 => ?_)
              refine F.nx ?_
              have nb352 : Nb B (.slice (some ⟨g344, 0, none⟩) (n1_c3_1 + 1) cap345) := nb_app nb1_c3_1_B (Cur.lt x329) hat349
              have x329 := Cur.grown x329 hg348 nb1_c3_1_B (fun j e => Nat.le_trans hN (World.ownsRow.lt ho343 j e).1)
              have nb353 : Nb b2 (.slice (some ⟨g344, 0, none⟩) (n1_c3_1 + 1) cap345) := nb_app nb1_c3_1_b2 (Nat.lt_of_lt_of_le (blk_lt x6) (s337).size) hat349
              have nb354 : Nb b20 (.slice (some ⟨g344, 0, none⟩) (n1_c3_1 + 1) cap345) := nb_app nb1_c3_1_b20 (blk_lt x243) hat349
              have x243 := (hg348.block _ (blk_lt x243) nb1_c3_1_b20).trans x243
              have nb355 : Nb b332 (.slice (some ⟨g344, 0, none⟩) (n1_c3_1 + 1) cap345) := nb_app nb342 (blk_lt x336) hat349
              have x336 := (hg348.block _ (blk_lt x336) nb342).trans x336
              have ho347 := own_snocP (x := (Pp.mk (d1 + 1 + x217) (1 + x228) (1 + ((1 + x228) % (1 + x13))) (1 + x324))) ho347
              refine F.q (v := .pointer (some ⟨b20, 1, none⟩)) (hr := (r_field (k := 1) rfl (ev_any (by kernel_rfl)) (by kernel_rfl))) (h := ?_)
              refine M.ss (v := .slice (some ⟨g344, 0, none⟩) (n1_c3_1 + 1) cap345) (j := 1) (news := [.slice (some ⟨g344, 0, none⟩) (n1_c3_1 + 1) cap345]) (cs' := #[.int .i64 (1 + x13), .slice (some ⟨g344, 0, none⟩) (n1_c3_1 + 1) cap345]) s351 rfl (by kernel_rfl) rfl rfl (by kernel_rfl) (by kernel_rfl) x243 (by kernel_rfl) (by kernel_rfl) (by simp) (by kernel_rfl) (by kernel_rfl) (.inl (by simp)) (fun w356 g357 x358 s359 => ?_)
              have x329 := Cur.grown x329 g357 (fun e9 => ne27 (Option.some.inj e9)) (fun j e => by cases e; exact Nat.le_trans hN lo26)
              have x336 := (g357.block _ (blk_lt x336) (fun e9 => ne341 (Option.some.inj e9).symm)).trans x336
              have ho360 := own_grown ho347 g357 (fun j e1 e2 => by cases e2; exact nb354 e1.symm)
              refine F.endF [(0, .pointer (some ⟨B, 0, none⟩)), (2, .pointer (some ⟨b2, 0, none⟩)), (3, .pointer (some ⟨b20, 0, none⟩)), (4, .int .i64 (d1 + 1 + x217)), (5, .int .i64 ((i : Nat) : Int)), (7, .int .i64 z), (8, .int .i64 (1 + x228)), (16, .bool false), (67, .bool true)] (fun U361 => ?_)
              have x6 := SM.blk s359 x6 (ne3 (fun e9 => ne9 (Option.some.inj e9).symm) nb1_c3_1_b2 (fun e9 => ne28 (Option.some.inj e9)))
              have c362 := (SM.fr (B := B) c237 s359 (in3 (fun kq e => .inl (by cases e; rfl)) (fun kq e => .inr (World.ownsRow.lt ho235 kq e).1) (fun kq e => .inr (by cases e; exact lo26))))
              refine h21 _ _ ?_
              refine W.region_quiet [(0, false), (1, false), (2, false)] (by kernel_rfl) ?_
              refine F.mv (v := .int .i64 z) (h := ?_)
              refine F.q (v := .int .i64 (z - 1)) (hr := (r_sub (m := z) (n := 1) (z := z - 1) rfl (ev_any (by kernel_rfl)) (ev_any (by kernel_rfl)) (rfl) (by omega))) (h := ?_)
              refine F.as (v := .int .i64 (z - 1)) (h := ?_)
              refine F.endF [(0, .pointer (some ⟨B, 0, none⟩)), (2, .pointer (some ⟨b2, 0, none⟩)), (3, .pointer (some ⟨b20, 0, none⟩)), (4, .int .i64 (d1 + 1 + x217)), (5, .int .i64 ((i : Nat) : Int)), (7, .int .i64 (z - 1)), (8, .int .i64 (1 + x228)), (16, .bool false), (67, .bool true)] (fun U363 => ?_)
              exact h18 _ _ _ (by omega : ((z - 1).toNat) < _) ⟨z - 1, d1 + 1 + x217, (ps1 ++ [(Pp.mk (d1 + 1 + x217) (1 + x228) (1 + ((1 + x228) % (1 + x13))) (1 + x324))]), (some ⟨g344, 0, none⟩), (n1_c3_1 + 1), cap345, (fun iU9 => lk [(0, .pointer (some ⟨B, 0, none⟩)), (2, .pointer (some ⟨b2, 0, none⟩)), (3, .pointer (some ⟨b20, 0, none⟩)), (4, .int .i64 (d1 + 1 + x217)), (5, .int .i64 ((i : Nat) : Int)), (7, .int .i64 (z - 1)), (8, .int .i64 (1 + x228)), (16, .bool false), (67, .bool true)] iU9 (U363 iU9)), (by kernel_rfl), rfl, (by omega), (⟨by omega, by omega⟩), (sm_snoc hps1 (sm_mk (by omega))), (by rw [snoc_len]; omega), (Cur.mono x329 (by omega)), x6, x358, ho360, nb352, nb353, nb354, c362⟩
            · refine W.sc (vs := [.pointer (some ⟨B, 0, none⟩), .int .i64 9]) rfl rfl (by kernel_rfl) (by kernel_rfl) (by kernel_rfl) rfl (pick_any B N ((k + 200 + 10 * (4 - z.toNat) + 2) + 2) 9 _ x242 (by omega) (by omega)) ?_
              rintro e w367 ⟨x364, rfl, hx365, x369, g368⟩
              have s370 := SM.of_grown s240 g368 (.inl (by simp))
              refine ⟨_, rfl, s370, ?_⟩
              refine F.nx ?_
              have x243 := (g368.block _ (blk_lt x243) (fun e9 => ne27 (Option.some.inj e9).symm)).trans x243
              have ho371 := own_grown ho241 g368 (fun j e1 e2 => by cases e2; exact nb1_c3_1_B e1.symm)
              refine F.q (v := .int .i64 (1 + x364)) (hr := (r_add (m := 1) (n := x364) (z := 1 + x364) rfl (ev_any (by kernel_rfl)) (ev_any (by kernel_rfl)) (rfl) (by omega))) (h := ?_)
              refine F.q (v := .agg #[.int .i64 (d1 + 1 + x217), .int .i64 (1 + x228), .int .i64 (1 + ((1 + x228) % (1 + x13))), .int .i64 (1 + x364)]) (hr := (r_build rfl (vs := [(0, .int .i64 (d1 + 1 + x217)), (1, .int .i64 (1 + x228)), (2, .int .i64 (1 + ((1 + x228) % (1 + x13)))), (3, .int .i64 (1 + x364))]) (by kernel_rfl) (by kernel_rfl))) (h := ?_)
              refine W.sbr ?_ ?_
              · refine W.slq (v := .slice A1_c3_1 n1_c3_1 c1_c3_1) s370 rfl (r_load rfl (by kernel_rfl) (by kernel_rfl) (eqS (blk_cell (j := 1) x243 (by kernel_rfl)))) (by kernel_rfl) rfl ?_
                refine F.nx ?_
                refine M.sn (fun b => .slice (some ⟨b, 0, none⟩) 1 1) #[.int .i64 (d1 + 1 + x217), .int .i64 (1 + x228), .int .i64 (1 + ((1 + x228) % (1 + x13))), .int .i64 (1 + x364)] 51 s370 rfl (by kernel_rfl) rfl (fun _ => by kernel_rfl) (fun b372 w373 hb374 k375 x376 s377 => ?_)
                refine F.nx ?_
                have lo378 : w.heap.size ≤ b372 := Nat.le_trans ((SM.fr (B := B) c237 s370 (in3 (fun kq e => .inl (by cases e; rfl)) (fun kq e => .inr (World.ownsRow.lt ho235 kq e).1) (fun kq e => .inr (by cases e; exact lo26))))).size (Nat.le_of_eq hb374)
                have ne379 : B ≠ b372 := Nat.ne_of_lt (Nat.lt_of_lt_of_eq (Cur.lt x369) hb374)
                have ne380 : b2 ≠ b372 := Nat.ne_of_lt (Nat.lt_of_lt_of_eq (Nat.lt_of_lt_of_le (blk_lt x6) (s370).size) hb374)
                have ne381 : b20 ≠ b372 := Nat.ne_of_lt (Nat.lt_of_lt_of_eq (blk_lt x243) hb374)
                have nb382 : Nb b372 (.slice A1_c3_1 n1_c3_1 c1_c3_1) := nb_hi ho371 (Nat.le_of_eq hb374)
                have x369 := Cur.below x369 k375
                have x243 := (k375.block _ (blk_lt x243)).trans x243
                have ho383 := own_kept ho371 k375
                refine M.sap (e := 51) (size := 4) (base := w.heap.size) (m := 1) (v := .slice A1_c3_1 n1_c3_1 c1_c3_1) (c := 1) s377 rfl rfl rfl rfl (by kernel_rfl) (by kernel_rfl) (by kernel_rfl) ho383 x376 (by kernel_rfl) (by kernel_rfl) (by omega) (by omega) (by have := ((SM.fr (B := B) c237 s377 (in3 (fun kq e => .inl (by cases e; rfl)) (fun kq e => .inr (World.ownsRow.lt ho235 kq e).1) (fun kq e => .inr (by cases e; exact lo26))))).size; omega) (.inl (by simp)) (fun g384 cap385 w386 ho387 hg388 hat389 hlt390 s391 => ?_)
                refine F.nx ?_
                have nb392 : Nb B (.slice (some ⟨g384, 0, none⟩) (n1_c3_1 + 1) cap385) := nb_app nb1_c3_1_B (Cur.lt x369) hat389
                have x369 := Cur.grown x369 hg388 nb1_c3_1_B (fun j e => Nat.le_trans hN (World.ownsRow.lt ho383 j e).1)
                have nb393 : Nb b2 (.slice (some ⟨g384, 0, none⟩) (n1_c3_1 + 1) cap385) := nb_app nb1_c3_1_b2 (Nat.lt_of_lt_of_le (blk_lt x6) (s377).size) hat389
                have nb394 : Nb b20 (.slice (some ⟨g384, 0, none⟩) (n1_c3_1 + 1) cap385) := nb_app nb1_c3_1_b20 (blk_lt x243) hat389
                have x243 := (hg388.block _ (blk_lt x243) nb1_c3_1_b20).trans x243
                have nb395 : Nb b372 (.slice (some ⟨g384, 0, none⟩) (n1_c3_1 + 1) cap385) := nb_app nb382 (blk_lt x376) hat389
                have x376 := (hg388.block _ (blk_lt x376) nb382).trans x376
                have ho387 := own_snocP (x := (Pp.mk (d1 + 1 + x217) (1 + x228) (1 + ((1 + x228) % (1 + x13))) (1 + x364))) ho387
                refine F.q (v := .pointer (some ⟨b20, 1, none⟩)) (hr := (r_field (k := 1) rfl (ev_any (by kernel_rfl)) (by kernel_rfl))) (h := ?_)
                refine M.ss (v := .slice (some ⟨g384, 0, none⟩) (n1_c3_1 + 1) cap385) (j := 1) (news := [.slice (some ⟨g384, 0, none⟩) (n1_c3_1 + 1) cap385]) (cs' := #[.int .i64 (1 + x13), .slice (some ⟨g384, 0, none⟩) (n1_c3_1 + 1) cap385]) s391 rfl (by kernel_rfl) rfl rfl (by kernel_rfl) (by kernel_rfl) x243 (by kernel_rfl) (by kernel_rfl) (by simp) (by kernel_rfl) (by kernel_rfl) (.inl (by simp)) (fun w396 g397 x398 s399 => ?_)
                have x369 := Cur.grown x369 g397 (fun e9 => ne27 (Option.some.inj e9)) (fun j e => by cases e; exact Nat.le_trans hN lo26)
                have x376 := (g397.block _ (blk_lt x376) (fun e9 => ne381 (Option.some.inj e9).symm)).trans x376
                have ho400 := own_grown ho387 g397 (fun j e1 e2 => by cases e2; exact nb394 e1.symm)
                refine F.endF [(0, .pointer (some ⟨B, 0, none⟩)), (2, .pointer (some ⟨b2, 0, none⟩)), (3, .pointer (some ⟨b20, 0, none⟩)), (4, .int .i64 (d1 + 1 + x217)), (5, .int .i64 ((i : Nat) : Int)), (7, .int .i64 z), (8, .int .i64 (1 + x228)), (16, .bool false), (67, .bool true)] (fun U401 => ?_)
                have x6 := SM.blk s399 x6 (ne3 (fun e9 => ne9 (Option.some.inj e9).symm) nb1_c3_1_b2 (fun e9 => ne28 (Option.some.inj e9)))
                have c402 := (SM.fr (B := B) c237 s399 (in3 (fun kq e => .inl (by cases e; rfl)) (fun kq e => .inr (World.ownsRow.lt ho235 kq e).1) (fun kq e => .inr (by cases e; exact lo26))))
                refine h21 _ _ ?_
                refine W.region_quiet [(0, false), (1, false), (2, false)] (by kernel_rfl) ?_
                refine F.mv (v := .int .i64 z) (h := ?_)
                refine F.q (v := .int .i64 (z - 1)) (hr := (r_sub (m := z) (n := 1) (z := z - 1) rfl (ev_any (by kernel_rfl)) (ev_any (by kernel_rfl)) (rfl) (by omega))) (h := ?_)
                refine F.as (v := .int .i64 (z - 1)) (h := ?_)
                refine F.endF [(0, .pointer (some ⟨B, 0, none⟩)), (2, .pointer (some ⟨b2, 0, none⟩)), (3, .pointer (some ⟨b20, 0, none⟩)), (4, .int .i64 (d1 + 1 + x217)), (5, .int .i64 ((i : Nat) : Int)), (7, .int .i64 (z - 1)), (8, .int .i64 (1 + x228)), (16, .bool false), (67, .bool true)] (fun U403 => ?_)
                exact h18 _ _ _ (by omega : ((z - 1).toNat) < _) ⟨z - 1, d1 + 1 + x217, (ps1 ++ [(Pp.mk (d1 + 1 + x217) (1 + x228) (1 + ((1 + x228) % (1 + x13))) (1 + x364))]), (some ⟨g384, 0, none⟩), (n1_c3_1 + 1), cap385, (fun iU9 => lk [(0, .pointer (some ⟨B, 0, none⟩)), (2, .pointer (some ⟨b2, 0, none⟩)), (3, .pointer (some ⟨b20, 0, none⟩)), (4, .int .i64 (d1 + 1 + x217)), (5, .int .i64 ((i : Nat) : Int)), (7, .int .i64 (z - 1)), (8, .int .i64 (1 + x228)), (16, .bool false), (67, .bool true)] iU9 (U403 iU9)), (by kernel_rfl), rfl, (by omega), (⟨by omega, by omega⟩), (sm_snoc hps1 (sm_mk (by omega))), (by rw [snoc_len]; omega), (Cur.mono x369 (by omega)), x6, x398, ho400, nb392, nb393, nb394, c402⟩
              · refine M.sn (fun b => .slice (some ⟨b, 0, none⟩) 1 1) #[.int .i64 (d1 + 1 + x217), .int .i64 (1 + x228), .int .i64 (1 + ((1 + x228) % (1 + x13))), .int .i64 (1 + x364)] 51 s370 rfl (by kernel_rfl) rfl (fun _ => by kernel_rfl) (fun b404 w405 hb406 k407 x408 s409 => ?_)
                refine F.nx ?_
                have lo410 : w.heap.size ≤ b404 := Nat.le_trans ((SM.fr (B := B) c237 s370 (in3 (fun kq e => .inl (by cases e; rfl)) (fun kq e => .inr (World.ownsRow.lt ho235 kq e).1) (fun kq e => .inr (by cases e; exact lo26))))).size (Nat.le_of_eq hb406)
                have ne411 : B ≠ b404 := Nat.ne_of_lt (Nat.lt_of_lt_of_eq (Cur.lt x369) hb406)
                have ne412 : b2 ≠ b404 := Nat.ne_of_lt (Nat.lt_of_lt_of_eq (Nat.lt_of_lt_of_le (blk_lt x6) (s370).size) hb406)
                have ne413 : b20 ≠ b404 := Nat.ne_of_lt (Nat.lt_of_lt_of_eq (blk_lt x243) hb406)
                have nb414 : Nb b404 (.slice A1_c3_1 n1_c3_1 c1_c3_1) := nb_hi ho371 (Nat.le_of_eq hb406)
                have x369 := Cur.below x369 k407
                have x243 := (k407.block _ (blk_lt x243)).trans x243
                have ho415 := own_kept ho371 k407
                refine W.slq (v := .slice A1_c3_1 n1_c3_1 c1_c3_1) s409 rfl (r_load rfl (by kernel_rfl) (by kernel_rfl) (eqS (blk_cell (j := 1) x243 (by kernel_rfl)))) (by kernel_rfl) rfl ?_
                refine F.nx ?_
                refine M.sap (e := 51) (size := 4) (base := w.heap.size) (m := 1) (v := .slice A1_c3_1 n1_c3_1 c1_c3_1) (c := 1) s409 rfl rfl rfl rfl (by kernel_rfl) (by kernel_rfl) (by kernel_rfl) ho415 x408 (by kernel_rfl) (by kernel_rfl) (by omega) (by omega) (by have := ((SM.fr (B := B) c237 s409 (in3 (fun kq e => .inl (by cases e; rfl)) (fun kq e => .inr (World.ownsRow.lt ho235 kq e).1) (fun kq e => .inr (by cases e; exact lo26))))).size; omega) (.inl (by simp)) (fun g416 cap417 w418 ho419 hg420 hat421 hlt422 s423 => ?_)
                refine F.nx ?_
                have nb424 : Nb B (.slice (some ⟨g416, 0, none⟩) (n1_c3_1 + 1) cap417) := nb_app nb1_c3_1_B (Cur.lt x369) hat421
                have x369 := Cur.grown x369 hg420 nb1_c3_1_B (fun j e => Nat.le_trans hN (World.ownsRow.lt ho415 j e).1)
                have nb425 : Nb b2 (.slice (some ⟨g416, 0, none⟩) (n1_c3_1 + 1) cap417) := nb_app nb1_c3_1_b2 (Nat.lt_of_lt_of_le (blk_lt x6) (s409).size) hat421
                have nb426 : Nb b20 (.slice (some ⟨g416, 0, none⟩) (n1_c3_1 + 1) cap417) := nb_app nb1_c3_1_b20 (blk_lt x243) hat421
                have x243 := (hg420.block _ (blk_lt x243) nb1_c3_1_b20).trans x243
                have nb427 : Nb b404 (.slice (some ⟨g416, 0, none⟩) (n1_c3_1 + 1) cap417) := nb_app nb414 (blk_lt x408) hat421
                have x408 := (hg420.block _ (blk_lt x408) nb414).trans x408
                have ho419 := own_snocP (x := (Pp.mk (d1 + 1 + x217) (1 + x228) (1 + ((1 + x228) % (1 + x13))) (1 + x364))) ho419
                refine F.q (v := .pointer (some ⟨b20, 1, none⟩)) (hr := (r_field (k := 1) rfl (ev_any (by kernel_rfl)) (by kernel_rfl))) (h := ?_)
                refine M.ss (v := .slice (some ⟨g416, 0, none⟩) (n1_c3_1 + 1) cap417) (j := 1) (news := [.slice (some ⟨g416, 0, none⟩) (n1_c3_1 + 1) cap417]) (cs' := #[.int .i64 (1 + x13), .slice (some ⟨g416, 0, none⟩) (n1_c3_1 + 1) cap417]) s423 rfl (by kernel_rfl) rfl rfl (by kernel_rfl) (by kernel_rfl) x243 (by kernel_rfl) (by kernel_rfl) (by simp) (by kernel_rfl) (by kernel_rfl) (.inl (by simp)) (fun w428 g429 x430 s431 => ?_)
                have x369 := Cur.grown x369 g429 (fun e9 => ne27 (Option.some.inj e9)) (fun j e => by cases e; exact Nat.le_trans hN lo26)
                have x408 := (g429.block _ (blk_lt x408) (fun e9 => ne413 (Option.some.inj e9).symm)).trans x408
                have ho432 := own_grown ho419 g429 (fun j e1 e2 => by cases e2; exact nb426 e1.symm)
                refine F.endF [(0, .pointer (some ⟨B, 0, none⟩)), (2, .pointer (some ⟨b2, 0, none⟩)), (3, .pointer (some ⟨b20, 0, none⟩)), (4, .int .i64 (d1 + 1 + x217)), (5, .int .i64 ((i : Nat) : Int)), (7, .int .i64 z), (8, .int .i64 (1 + x228)), (16, .bool false), (67, .bool true)] (fun U433 => ?_)
                have x6 := SM.blk s431 x6 (ne3 (fun e9 => ne9 (Option.some.inj e9).symm) nb1_c3_1_b2 (fun e9 => ne28 (Option.some.inj e9)))
                have c434 := (SM.fr (B := B) c237 s431 (in3 (fun kq e => .inl (by cases e; rfl)) (fun kq e => .inr (World.ownsRow.lt ho235 kq e).1) (fun kq e => .inr (by cases e; exact lo26))))
                refine h21 _ _ ?_
                refine W.region_quiet [(0, false), (1, false), (2, false)] (by kernel_rfl) ?_
                refine F.mv (v := .int .i64 z) (h := ?_)
                refine F.q (v := .int .i64 (z - 1)) (hr := (r_sub (m := z) (n := 1) (z := z - 1) rfl (ev_any (by kernel_rfl)) (ev_any (by kernel_rfl)) (rfl) (by omega))) (h := ?_)
                refine F.as (v := .int .i64 (z - 1)) (h := ?_)
                refine F.endF [(0, .pointer (some ⟨B, 0, none⟩)), (2, .pointer (some ⟨b2, 0, none⟩)), (3, .pointer (some ⟨b20, 0, none⟩)), (4, .int .i64 (d1 + 1 + x217)), (5, .int .i64 ((i : Nat) : Int)), (7, .int .i64 (z - 1)), (8, .int .i64 (1 + x228)), (16, .bool false), (67, .bool true)] (fun U435 => ?_)
                exact h18 _ _ _ (by omega : ((z - 1).toNat) < _) ⟨z - 1, d1 + 1 + x217, (ps1 ++ [(Pp.mk (d1 + 1 + x217) (1 + x228) (1 + ((1 + x228) % (1 + x13))) (1 + x364))]), (some ⟨g416, 0, none⟩), (n1_c3_1 + 1), cap417, (fun iU9 => lk [(0, .pointer (some ⟨B, 0, none⟩)), (2, .pointer (some ⟨b2, 0, none⟩)), (3, .pointer (some ⟨b20, 0, none⟩)), (4, .int .i64 (d1 + 1 + x217)), (5, .int .i64 ((i : Nat) : Int)), (7, .int .i64 (z - 1)), (8, .int .i64 (1 + x228)), (16, .bool false), (67, .bool true)] iU9 (U435 iU9)), (by kernel_rfl), rfl, (by omega), (⟨by omega, by omega⟩), (sm_snoc hps1 (sm_mk (by omega))), (by rw [snoc_len]; omega), (Cur.mono x369 (by omega)), x6, x430, ho432, nb424, nb425, nb426, c434⟩
          · refine W.sc (vs := [.pointer (some ⟨B, 0, none⟩), .int .i64 9]) rfl rfl (by kernel_rfl) (by kernel_rfl) (by kernel_rfl) rfl (pick_any B N ((k + 200 + 10 * (4 - z.toNat) + 2) + 2) 9 _ x242 (by omega) (by omega)) ?_
            rintro e w439 ⟨x436, rfl, hx437, x441, g440⟩
            have s442 := SM.of_grown s240 g440 (.inl (by simp))
            refine ⟨_, rfl, s442, ?_⟩
            refine F.nx ?_
            have x243 := (g440.block _ (blk_lt x243) (fun e9 => ne27 (Option.some.inj e9).symm)).trans x243
            have ho443 := own_grown ho241 g440 (fun j e1 e2 => by cases e2; exact nb1_c3_1_B e1.symm)
            refine F.q (v := .int .i64 (1 + x436)) (hr := (r_add (m := 1) (n := x436) (z := 1 + x436) rfl (ev_any (by kernel_rfl)) (ev_any (by kernel_rfl)) (rfl) (by omega))) (h := ?_)
            refine W.sbr ?_ ?_
            · refine W.slq (v := .slice A1_c3_1 n1_c3_1 c1_c3_1) s442 rfl (r_load rfl (by kernel_rfl) (by kernel_rfl) (eqS (blk_cell (j := 1) x243 (by kernel_rfl)))) (by kernel_rfl) rfl ?_
              refine F.nx ?_
              refine W.slq (v := .int .i64 (1 + x13)) s442 rfl (r_load rfl (by kernel_rfl) (by kernel_rfl) (eqS (blk_cell (j := 0) x243 (by kernel_rfl)))) (by kernel_rfl) rfl ?_
              refine F.nx ?_
              have hr1 := Int.emod_nonneg (1 + x228) (show (1 + x13) ≠ 0 by omega)
              have hr2 := Int.emod_lt_of_pos (1 + x228) (show 0 < (1 + x13) by omega)
              refine F.q (v := .int .i64 ((1 + x228) % (1 + x13))) (hr := (r_remK (k := .i64) (m := 1 + x228) (n := 1 + x13) (z := ((1 + x228) % (1 + x13))) rfl (ev_any (by kernel_rfl)) (ev_any (by kernel_rfl)) (by omega) (Int.tmod_eq_emod_of_nonneg (by omega)))) (h := ?_)
              refine F.q (v := .int .i64 (1 + ((1 + x228) % (1 + x13)))) (hr := (r_add (m := 1) (n := ((1 + x228) % (1 + x13))) (z := 1 + ((1 + x228) % (1 + x13))) rfl (ev_any (by kernel_rfl)) (ev_any (by kernel_rfl)) (rfl) (by omega))) (h := ?_)
              refine F.q (v := .agg #[.int .i64 (d1 + 1 + x217), .int .i64 (1 + x228), .int .i64 (1 + ((1 + x228) % (1 + x13))), .int .i64 (1 + x436)]) (hr := (r_build rfl (vs := [(0, .int .i64 (d1 + 1 + x217)), (1, .int .i64 (1 + x228)), (2, .int .i64 (1 + ((1 + x228) % (1 + x13)))), (3, .int .i64 (1 + x436))]) (by kernel_rfl) (by kernel_rfl))) (h := ?_)
              refine M.sn (fun b => .slice (some ⟨b, 0, none⟩) 1 1) #[.int .i64 (d1 + 1 + x217), .int .i64 (1 + x228), .int .i64 (1 + ((1 + x228) % (1 + x13))), .int .i64 (1 + x436)] 51 s442 rfl (by kernel_rfl) rfl (fun _ => by kernel_rfl) (fun b444 w445 hb446 k447 x448 s449 => ?_)
              refine F.nx ?_
              have lo450 : w.heap.size ≤ b444 := Nat.le_trans ((SM.fr (B := B) c237 s442 (in3 (fun kq e => .inl (by cases e; rfl)) (fun kq e => .inr (World.ownsRow.lt ho235 kq e).1) (fun kq e => .inr (by cases e; exact lo26))))).size (Nat.le_of_eq hb446)
              have ne451 : B ≠ b444 := Nat.ne_of_lt (Nat.lt_of_lt_of_eq (Cur.lt x441) hb446)
              have ne452 : b2 ≠ b444 := Nat.ne_of_lt (Nat.lt_of_lt_of_eq (Nat.lt_of_lt_of_le (blk_lt x6) (s442).size) hb446)
              have ne453 : b20 ≠ b444 := Nat.ne_of_lt (Nat.lt_of_lt_of_eq (blk_lt x243) hb446)
              have nb454 : Nb b444 (.slice A1_c3_1 n1_c3_1 c1_c3_1) := nb_hi ho443 (Nat.le_of_eq hb446)
              have x441 := Cur.below x441 k447
              have x243 := (k447.block _ (blk_lt x243)).trans x243
              have ho455 := own_kept ho443 k447
              refine M.sap (e := 51) (size := 4) (base := w.heap.size) (m := 1) (v := .slice A1_c3_1 n1_c3_1 c1_c3_1) (c := 1) s449 rfl rfl rfl rfl (by kernel_rfl) (by kernel_rfl) (by kernel_rfl) ho455 x448 (by kernel_rfl) (by kernel_rfl) (by omega) (by omega) (by have := ((SM.fr (B := B) c237 s449 (in3 (fun kq e => .inl (by cases e; rfl)) (fun kq e => .inr (World.ownsRow.lt ho235 kq e).1) (fun kq e => .inr (by cases e; exact lo26))))).size; omega) (.inl (by simp)) (fun g456 cap457 w458 ho459 hg460 hat461 hlt462 s463 => ?_)
              refine F.nx ?_
              have nb464 : Nb B (.slice (some ⟨g456, 0, none⟩) (n1_c3_1 + 1) cap457) := nb_app nb1_c3_1_B (Cur.lt x441) hat461
              have x441 := Cur.grown x441 hg460 nb1_c3_1_B (fun j e => Nat.le_trans hN (World.ownsRow.lt ho455 j e).1)
              have nb465 : Nb b2 (.slice (some ⟨g456, 0, none⟩) (n1_c3_1 + 1) cap457) := nb_app nb1_c3_1_b2 (Nat.lt_of_lt_of_le (blk_lt x6) (s449).size) hat461
              have nb466 : Nb b20 (.slice (some ⟨g456, 0, none⟩) (n1_c3_1 + 1) cap457) := nb_app nb1_c3_1_b20 (blk_lt x243) hat461
              have x243 := (hg460.block _ (blk_lt x243) nb1_c3_1_b20).trans x243
              have nb467 : Nb b444 (.slice (some ⟨g456, 0, none⟩) (n1_c3_1 + 1) cap457) := nb_app nb454 (blk_lt x448) hat461
              have x448 := (hg460.block _ (blk_lt x448) nb454).trans x448
              have ho459 := own_snocP (x := (Pp.mk (d1 + 1 + x217) (1 + x228) (1 + ((1 + x228) % (1 + x13))) (1 + x436))) ho459
              refine F.q (v := .pointer (some ⟨b20, 1, none⟩)) (hr := (r_field (k := 1) rfl (ev_any (by kernel_rfl)) (by kernel_rfl))) (h := ?_)
              refine M.ss (v := .slice (some ⟨g456, 0, none⟩) (n1_c3_1 + 1) cap457) (j := 1) (news := [.slice (some ⟨g456, 0, none⟩) (n1_c3_1 + 1) cap457]) (cs' := #[.int .i64 (1 + x13), .slice (some ⟨g456, 0, none⟩) (n1_c3_1 + 1) cap457]) s463 rfl (by kernel_rfl) rfl rfl (by kernel_rfl) (by kernel_rfl) x243 (by kernel_rfl) (by kernel_rfl) (by simp) (by kernel_rfl) (by kernel_rfl) (.inl (by simp)) (fun w468 g469 x470 s471 => ?_)
              have x441 := Cur.grown x441 g469 (fun e9 => ne27 (Option.some.inj e9)) (fun j e => by cases e; exact Nat.le_trans hN lo26)
              have x448 := (g469.block _ (blk_lt x448) (fun e9 => ne453 (Option.some.inj e9).symm)).trans x448
              have ho472 := own_grown ho459 g469 (fun j e1 e2 => by cases e2; exact nb466 e1.symm)
              refine F.endF [(0, .pointer (some ⟨B, 0, none⟩)), (2, .pointer (some ⟨b2, 0, none⟩)), (3, .pointer (some ⟨b20, 0, none⟩)), (4, .int .i64 (d1 + 1 + x217)), (5, .int .i64 ((i : Nat) : Int)), (7, .int .i64 z), (8, .int .i64 (1 + x228)), (16, .bool false), (67, .bool true)] (fun U473 => ?_)
              have x6 := SM.blk s471 x6 (ne3 (fun e9 => ne9 (Option.some.inj e9).symm) nb1_c3_1_b2 (fun e9 => ne28 (Option.some.inj e9)))
              have c474 := (SM.fr (B := B) c237 s471 (in3 (fun kq e => .inl (by cases e; rfl)) (fun kq e => .inr (World.ownsRow.lt ho235 kq e).1) (fun kq e => .inr (by cases e; exact lo26))))
              refine h21 _ _ ?_
              refine W.region_quiet [(0, false), (1, false), (2, false)] (by kernel_rfl) ?_
              refine F.mv (v := .int .i64 z) (h := ?_)
              refine F.q (v := .int .i64 (z - 1)) (hr := (r_sub (m := z) (n := 1) (z := z - 1) rfl (ev_any (by kernel_rfl)) (ev_any (by kernel_rfl)) (rfl) (by omega))) (h := ?_)
              refine F.as (v := .int .i64 (z - 1)) (h := ?_)
              refine F.endF [(0, .pointer (some ⟨B, 0, none⟩)), (2, .pointer (some ⟨b2, 0, none⟩)), (3, .pointer (some ⟨b20, 0, none⟩)), (4, .int .i64 (d1 + 1 + x217)), (5, .int .i64 ((i : Nat) : Int)), (7, .int .i64 (z - 1)), (8, .int .i64 (1 + x228)), (16, .bool false), (67, .bool true)] (fun U475 => ?_)
              exact h18 _ _ _ (by omega : ((z - 1).toNat) < _) ⟨z - 1, d1 + 1 + x217, (ps1 ++ [(Pp.mk (d1 + 1 + x217) (1 + x228) (1 + ((1 + x228) % (1 + x13))) (1 + x436))]), (some ⟨g456, 0, none⟩), (n1_c3_1 + 1), cap457, (fun iU9 => lk [(0, .pointer (some ⟨B, 0, none⟩)), (2, .pointer (some ⟨b2, 0, none⟩)), (3, .pointer (some ⟨b20, 0, none⟩)), (4, .int .i64 (d1 + 1 + x217)), (5, .int .i64 ((i : Nat) : Int)), (7, .int .i64 (z - 1)), (8, .int .i64 (1 + x228)), (16, .bool false), (67, .bool true)] iU9 (U475 iU9)), (by kernel_rfl), rfl, (by omega), (⟨by omega, by omega⟩), (sm_snoc hps1 (sm_mk (by omega))), (by rw [snoc_len]; omega), (Cur.mono x441 (by omega)), x6, x470, ho472, nb464, nb465, nb466, c474⟩
            · refine W.slq (v := .int .i64 (1 + x13)) s442 rfl (r_load rfl (by kernel_rfl) (by kernel_rfl) (eqS (blk_cell (j := 0) x243 (by kernel_rfl)))) (by kernel_rfl) rfl ?_
              refine F.nx ?_
              have hr1 := Int.emod_nonneg (1 + x228) (show (1 + x13) ≠ 0 by omega)
              have hr2 := Int.emod_lt_of_pos (1 + x228) (show 0 < (1 + x13) by omega)
              refine F.q (v := .int .i64 ((1 + x228) % (1 + x13))) (hr := (r_remK (k := .i64) (m := 1 + x228) (n := 1 + x13) (z := ((1 + x228) % (1 + x13))) rfl (ev_any (by kernel_rfl)) (ev_any (by kernel_rfl)) (by omega) (Int.tmod_eq_emod_of_nonneg (by omega)))) (h := ?_)
              refine F.q (v := .int .i64 (1 + ((1 + x228) % (1 + x13)))) (hr := (r_add (m := 1) (n := ((1 + x228) % (1 + x13))) (z := 1 + ((1 + x228) % (1 + x13))) rfl (ev_any (by kernel_rfl)) (ev_any (by kernel_rfl)) (rfl) (by omega))) (h := ?_)
              refine F.q (v := .agg #[.int .i64 (d1 + 1 + x217), .int .i64 (1 + x228), .int .i64 (1 + ((1 + x228) % (1 + x13))), .int .i64 (1 + x436)]) (hr := (r_build rfl (vs := [(0, .int .i64 (d1 + 1 + x217)), (1, .int .i64 (1 + x228)), (2, .int .i64 (1 + ((1 + x228) % (1 + x13)))), (3, .int .i64 (1 + x436))]) (by kernel_rfl) (by kernel_rfl))) (h := ?_)
              refine W.sbr ?_ ?_
              · refine W.slq (v := .slice A1_c3_1 n1_c3_1 c1_c3_1) s442 rfl (r_load rfl (by kernel_rfl) (by kernel_rfl) (eqS (blk_cell (j := 1) x243 (by kernel_rfl)))) (by kernel_rfl) rfl ?_
                refine F.nx ?_
                refine M.sn (fun b => .slice (some ⟨b, 0, none⟩) 1 1) #[.int .i64 (d1 + 1 + x217), .int .i64 (1 + x228), .int .i64 (1 + ((1 + x228) % (1 + x13))), .int .i64 (1 + x436)] 51 s442 rfl (by kernel_rfl) rfl (fun _ => by kernel_rfl) (fun b476 w477 hb478 k479 x480 s481 => ?_)
                refine F.nx ?_
                have lo482 : w.heap.size ≤ b476 := Nat.le_trans ((SM.fr (B := B) c237 s442 (in3 (fun kq e => .inl (by cases e; rfl)) (fun kq e => .inr (World.ownsRow.lt ho235 kq e).1) (fun kq e => .inr (by cases e; exact lo26))))).size (Nat.le_of_eq hb478)
                have ne483 : B ≠ b476 := Nat.ne_of_lt (Nat.lt_of_lt_of_eq (Cur.lt x441) hb478)
                have ne484 : b2 ≠ b476 := Nat.ne_of_lt (Nat.lt_of_lt_of_eq (Nat.lt_of_lt_of_le (blk_lt x6) (s442).size) hb478)
                have ne485 : b20 ≠ b476 := Nat.ne_of_lt (Nat.lt_of_lt_of_eq (blk_lt x243) hb478)
                have nb486 : Nb b476 (.slice A1_c3_1 n1_c3_1 c1_c3_1) := nb_hi ho443 (Nat.le_of_eq hb478)
                have x441 := Cur.below x441 k479
                have x243 := (k479.block _ (blk_lt x243)).trans x243
                have ho487 := own_kept ho443 k479
                refine M.sap (e := 51) (size := 4) (base := w.heap.size) (m := 1) (v := .slice A1_c3_1 n1_c3_1 c1_c3_1) (c := 1) s481 rfl rfl rfl rfl (by kernel_rfl) (by kernel_rfl) (by kernel_rfl) ho487 x480 (by kernel_rfl) (by kernel_rfl) (by omega) (by omega) (by have := ((SM.fr (B := B) c237 s481 (in3 (fun kq e => .inl (by cases e; rfl)) (fun kq e => .inr (World.ownsRow.lt ho235 kq e).1) (fun kq e => .inr (by cases e; exact lo26))))).size; omega) (.inl (by simp)) (fun g488 cap489 w490 ho491 hg492 hat493 hlt494 s495 => ?_)
                refine F.nx ?_
                have nb496 : Nb B (.slice (some ⟨g488, 0, none⟩) (n1_c3_1 + 1) cap489) := nb_app nb1_c3_1_B (Cur.lt x441) hat493
                have x441 := Cur.grown x441 hg492 nb1_c3_1_B (fun j e => Nat.le_trans hN (World.ownsRow.lt ho487 j e).1)
                have nb497 : Nb b2 (.slice (some ⟨g488, 0, none⟩) (n1_c3_1 + 1) cap489) := nb_app nb1_c3_1_b2 (Nat.lt_of_lt_of_le (blk_lt x6) (s481).size) hat493
                have nb498 : Nb b20 (.slice (some ⟨g488, 0, none⟩) (n1_c3_1 + 1) cap489) := nb_app nb1_c3_1_b20 (blk_lt x243) hat493
                have x243 := (hg492.block _ (blk_lt x243) nb1_c3_1_b20).trans x243
                have nb499 : Nb b476 (.slice (some ⟨g488, 0, none⟩) (n1_c3_1 + 1) cap489) := nb_app nb486 (blk_lt x480) hat493
                have x480 := (hg492.block _ (blk_lt x480) nb486).trans x480
                have ho491 := own_snocP (x := (Pp.mk (d1 + 1 + x217) (1 + x228) (1 + ((1 + x228) % (1 + x13))) (1 + x436))) ho491
                refine F.q (v := .pointer (some ⟨b20, 1, none⟩)) (hr := (r_field (k := 1) rfl (ev_any (by kernel_rfl)) (by kernel_rfl))) (h := ?_)
                refine M.ss (v := .slice (some ⟨g488, 0, none⟩) (n1_c3_1 + 1) cap489) (j := 1) (news := [.slice (some ⟨g488, 0, none⟩) (n1_c3_1 + 1) cap489]) (cs' := #[.int .i64 (1 + x13), .slice (some ⟨g488, 0, none⟩) (n1_c3_1 + 1) cap489]) s495 rfl (by kernel_rfl) rfl rfl (by kernel_rfl) (by kernel_rfl) x243 (by kernel_rfl) (by kernel_rfl) (by simp) (by kernel_rfl) (by kernel_rfl) (.inl (by simp)) (fun w500 g501 x502 s503 => ?_)
                have x441 := Cur.grown x441 g501 (fun e9 => ne27 (Option.some.inj e9)) (fun j e => by cases e; exact Nat.le_trans hN lo26)
                have x480 := (g501.block _ (blk_lt x480) (fun e9 => ne485 (Option.some.inj e9).symm)).trans x480
                have ho504 := own_grown ho491 g501 (fun j e1 e2 => by cases e2; exact nb498 e1.symm)
                refine F.endF [(0, .pointer (some ⟨B, 0, none⟩)), (2, .pointer (some ⟨b2, 0, none⟩)), (3, .pointer (some ⟨b20, 0, none⟩)), (4, .int .i64 (d1 + 1 + x217)), (5, .int .i64 ((i : Nat) : Int)), (7, .int .i64 z), (8, .int .i64 (1 + x228)), (16, .bool false), (67, .bool true)] (fun U505 => ?_)
                have x6 := SM.blk s503 x6 (ne3 (fun e9 => ne9 (Option.some.inj e9).symm) nb1_c3_1_b2 (fun e9 => ne28 (Option.some.inj e9)))
                have c506 := (SM.fr (B := B) c237 s503 (in3 (fun kq e => .inl (by cases e; rfl)) (fun kq e => .inr (World.ownsRow.lt ho235 kq e).1) (fun kq e => .inr (by cases e; exact lo26))))
                refine h21 _ _ ?_
                refine W.region_quiet [(0, false), (1, false), (2, false)] (by kernel_rfl) ?_
                refine F.mv (v := .int .i64 z) (h := ?_)
                refine F.q (v := .int .i64 (z - 1)) (hr := (r_sub (m := z) (n := 1) (z := z - 1) rfl (ev_any (by kernel_rfl)) (ev_any (by kernel_rfl)) (rfl) (by omega))) (h := ?_)
                refine F.as (v := .int .i64 (z - 1)) (h := ?_)
                refine F.endF [(0, .pointer (some ⟨B, 0, none⟩)), (2, .pointer (some ⟨b2, 0, none⟩)), (3, .pointer (some ⟨b20, 0, none⟩)), (4, .int .i64 (d1 + 1 + x217)), (5, .int .i64 ((i : Nat) : Int)), (7, .int .i64 (z - 1)), (8, .int .i64 (1 + x228)), (16, .bool false), (67, .bool true)] (fun U507 => ?_)
                exact h18 _ _ _ (by omega : ((z - 1).toNat) < _) ⟨z - 1, d1 + 1 + x217, (ps1 ++ [(Pp.mk (d1 + 1 + x217) (1 + x228) (1 + ((1 + x228) % (1 + x13))) (1 + x436))]), (some ⟨g488, 0, none⟩), (n1_c3_1 + 1), cap489, (fun iU9 => lk [(0, .pointer (some ⟨B, 0, none⟩)), (2, .pointer (some ⟨b2, 0, none⟩)), (3, .pointer (some ⟨b20, 0, none⟩)), (4, .int .i64 (d1 + 1 + x217)), (5, .int .i64 ((i : Nat) : Int)), (7, .int .i64 (z - 1)), (8, .int .i64 (1 + x228)), (16, .bool false), (67, .bool true)] iU9 (U507 iU9)), (by kernel_rfl), rfl, (by omega), (⟨by omega, by omega⟩), (sm_snoc hps1 (sm_mk (by omega))), (by rw [snoc_len]; omega), (Cur.mono x441 (by omega)), x6, x502, ho504, nb496, nb497, nb498, c506⟩
              · refine M.sn (fun b => .slice (some ⟨b, 0, none⟩) 1 1) #[.int .i64 (d1 + 1 + x217), .int .i64 (1 + x228), .int .i64 (1 + ((1 + x228) % (1 + x13))), .int .i64 (1 + x436)] 51 s442 rfl (by kernel_rfl) rfl (fun _ => by kernel_rfl) (fun b508 w509 hb510 k511 x512 s513 => ?_)
                refine F.nx ?_
                have lo514 : w.heap.size ≤ b508 := Nat.le_trans ((SM.fr (B := B) c237 s442 (in3 (fun kq e => .inl (by cases e; rfl)) (fun kq e => .inr (World.ownsRow.lt ho235 kq e).1) (fun kq e => .inr (by cases e; exact lo26))))).size (Nat.le_of_eq hb510)
                have ne515 : B ≠ b508 := Nat.ne_of_lt (Nat.lt_of_lt_of_eq (Cur.lt x441) hb510)
                have ne516 : b2 ≠ b508 := Nat.ne_of_lt (Nat.lt_of_lt_of_eq (Nat.lt_of_lt_of_le (blk_lt x6) (s442).size) hb510)
                have ne517 : b20 ≠ b508 := Nat.ne_of_lt (Nat.lt_of_lt_of_eq (blk_lt x243) hb510)
                have nb518 : Nb b508 (.slice A1_c3_1 n1_c3_1 c1_c3_1) := nb_hi ho443 (Nat.le_of_eq hb510)
                have x441 := Cur.below x441 k511
                have x243 := (k511.block _ (blk_lt x243)).trans x243
                have ho519 := own_kept ho443 k511
                refine W.slq (v := .slice A1_c3_1 n1_c3_1 c1_c3_1) s513 rfl (r_load rfl (by kernel_rfl) (by kernel_rfl) (eqS (blk_cell (j := 1) x243 (by kernel_rfl)))) (by kernel_rfl) rfl ?_
                refine F.nx ?_
                refine M.sap (e := 51) (size := 4) (base := w.heap.size) (m := 1) (v := .slice A1_c3_1 n1_c3_1 c1_c3_1) (c := 1) s513 rfl rfl rfl rfl (by kernel_rfl) (by kernel_rfl) (by kernel_rfl) ho519 x512 (by kernel_rfl) (by kernel_rfl) (by omega) (by omega) (by have := ((SM.fr (B := B) c237 s513 (in3 (fun kq e => .inl (by cases e; rfl)) (fun kq e => .inr (World.ownsRow.lt ho235 kq e).1) (fun kq e => .inr (by cases e; exact lo26))))).size; omega) (.inl (by simp)) (fun g520 cap521 w522 ho523 hg524 hat525 hlt526 s527 => ?_)
                refine F.nx ?_
                have nb528 : Nb B (.slice (some ⟨g520, 0, none⟩) (n1_c3_1 + 1) cap521) := nb_app nb1_c3_1_B (Cur.lt x441) hat525
                have x441 := Cur.grown x441 hg524 nb1_c3_1_B (fun j e => Nat.le_trans hN (World.ownsRow.lt ho519 j e).1)
                have nb529 : Nb b2 (.slice (some ⟨g520, 0, none⟩) (n1_c3_1 + 1) cap521) := nb_app nb1_c3_1_b2 (Nat.lt_of_lt_of_le (blk_lt x6) (s513).size) hat525
                have nb530 : Nb b20 (.slice (some ⟨g520, 0, none⟩) (n1_c3_1 + 1) cap521) := nb_app nb1_c3_1_b20 (blk_lt x243) hat525
                have x243 := (hg524.block _ (blk_lt x243) nb1_c3_1_b20).trans x243
                have nb531 : Nb b508 (.slice (some ⟨g520, 0, none⟩) (n1_c3_1 + 1) cap521) := nb_app nb518 (blk_lt x512) hat525
                have x512 := (hg524.block _ (blk_lt x512) nb518).trans x512
                have ho523 := own_snocP (x := (Pp.mk (d1 + 1 + x217) (1 + x228) (1 + ((1 + x228) % (1 + x13))) (1 + x436))) ho523
                refine F.q (v := .pointer (some ⟨b20, 1, none⟩)) (hr := (r_field (k := 1) rfl (ev_any (by kernel_rfl)) (by kernel_rfl))) (h := ?_)
                refine M.ss (v := .slice (some ⟨g520, 0, none⟩) (n1_c3_1 + 1) cap521) (j := 1) (news := [.slice (some ⟨g520, 0, none⟩) (n1_c3_1 + 1) cap521]) (cs' := #[.int .i64 (1 + x13), .slice (some ⟨g520, 0, none⟩) (n1_c3_1 + 1) cap521]) s527 rfl (by kernel_rfl) rfl rfl (by kernel_rfl) (by kernel_rfl) x243 (by kernel_rfl) (by kernel_rfl) (by simp) (by kernel_rfl) (by kernel_rfl) (.inl (by simp)) (fun w532 g533 x534 s535 => ?_)
                have x441 := Cur.grown x441 g533 (fun e9 => ne27 (Option.some.inj e9)) (fun j e => by cases e; exact Nat.le_trans hN lo26)
                have x512 := (g533.block _ (blk_lt x512) (fun e9 => ne517 (Option.some.inj e9).symm)).trans x512
                have ho536 := own_grown ho523 g533 (fun j e1 e2 => by cases e2; exact nb530 e1.symm)
                refine F.endF [(0, .pointer (some ⟨B, 0, none⟩)), (2, .pointer (some ⟨b2, 0, none⟩)), (3, .pointer (some ⟨b20, 0, none⟩)), (4, .int .i64 (d1 + 1 + x217)), (5, .int .i64 ((i : Nat) : Int)), (7, .int .i64 z), (8, .int .i64 (1 + x228)), (16, .bool false), (67, .bool true)] (fun U537 => ?_)
                have x6 := SM.blk s535 x6 (ne3 (fun e9 => ne9 (Option.some.inj e9).symm) nb1_c3_1_b2 (fun e9 => ne28 (Option.some.inj e9)))
                have c538 := (SM.fr (B := B) c237 s535 (in3 (fun kq e => .inl (by cases e; rfl)) (fun kq e => .inr (World.ownsRow.lt ho235 kq e).1) (fun kq e => .inr (by cases e; exact lo26))))
                refine h21 _ _ ?_
                refine W.region_quiet [(0, false), (1, false), (2, false)] (by kernel_rfl) ?_
                refine F.mv (v := .int .i64 z) (h := ?_)
                refine F.q (v := .int .i64 (z - 1)) (hr := (r_sub (m := z) (n := 1) (z := z - 1) rfl (ev_any (by kernel_rfl)) (ev_any (by kernel_rfl)) (rfl) (by omega))) (h := ?_)
                refine F.as (v := .int .i64 (z - 1)) (h := ?_)
                refine F.endF [(0, .pointer (some ⟨B, 0, none⟩)), (2, .pointer (some ⟨b2, 0, none⟩)), (3, .pointer (some ⟨b20, 0, none⟩)), (4, .int .i64 (d1 + 1 + x217)), (5, .int .i64 ((i : Nat) : Int)), (7, .int .i64 (z - 1)), (8, .int .i64 (1 + x228)), (16, .bool false), (67, .bool true)] (fun U539 => ?_)
                exact h18 _ _ _ (by omega : ((z - 1).toNat) < _) ⟨z - 1, d1 + 1 + x217, (ps1 ++ [(Pp.mk (d1 + 1 + x217) (1 + x228) (1 + ((1 + x228) % (1 + x13))) (1 + x436))]), (some ⟨g520, 0, none⟩), (n1_c3_1 + 1), cap521, (fun iU9 => lk [(0, .pointer (some ⟨B, 0, none⟩)), (2, .pointer (some ⟨b2, 0, none⟩)), (3, .pointer (some ⟨b20, 0, none⟩)), (4, .int .i64 (d1 + 1 + x217)), (5, .int .i64 ((i : Nat) : Int)), (7, .int .i64 (z - 1)), (8, .int .i64 (1 + x228)), (16, .bool false), (67, .bool true)] iU9 (U539 iU9)), (by kernel_rfl), rfl, (by omega), (⟨by omega, by omega⟩), (sm_snoc hps1 (sm_mk (by omega))), (by rw [snoc_len]; omega), (Cur.mono x441 (by omega)), x6, x534, ho536, nb528, nb529, nb530, c538⟩
        · refine F.q (v := .bool false) (hr := (r_lss (m := ((n1_c3_1 : Nat) : Int)) (n := 10) rfl (ev_any (by kernel_rfl)) (ev_any (by kernel_rfl)) (decide_eq_false q214))) (h := ?_)
          refine F.q (v := .bool false) (hr := (r_pick (b := true) rfl (ev_any (by kernel_rfl)) (ev_any (by kernel_rfl)))) (h := ?_)
          refine F.endF [(0, .pointer (some ⟨B, 0, none⟩)), (2, .pointer (some ⟨b2, 0, none⟩)), (3, .pointer (some ⟨b20, 0, none⟩)), (4, .int .i64 d1), (5, .int .i64 ((i : Nat) : Int)), (7, .int .i64 z), (16, .bool false), (67, .bool false)] (fun U540 => ?_)
          refine h20 _ _ ?_
          refine wp_cond_false (by kernel_rfl) ?_
          refine wp_exit ?_
          refine h16 _ _ ?_
          refine wp_seq_k (fun K24 h24 => ?_)
          refine W.region_plain (row := (some b2)) [(0, false), (1, true)] (by kernel_rfl) ?_
          have s541 := SG.self wl1 (some b2)
          refine F.q (v := .agg #[.int .i64 (1 + x13), .slice A1_c3_1 n1_c3_1 c1_c3_1]) (hr := (r_load2 rfl (ev_any (by kernel_rfl)) (by kernel_rfl) (by kernel_rfl) (sgS (blk_cell (j := 0) x31 (by kernel_rfl)) (fun e9 => ne28 (Option.some.inj e9).symm)) (sgS (blk_cell (j := 1) x31 (by kernel_rfl)) (fun e9 => ne28 (Option.some.inj e9).symm)))) (h := ?_)
          refine W.ss (v := .agg #[.int .i64 (1 + x13), .slice A1_c3_1 n1_c3_1 c1_c3_1]) (j := 0) (news := [.int .i64 (1 + x13), .slice A1_c3_1 n1_c3_1 c1_c3_1]) (cs' := #[.int .i64 (1 + x13), .slice A1_c3_1 n1_c3_1 c1_c3_1]) s541 rfl (by kernel_rfl) rfl rfl (by kernel_rfl) (by kernel_rfl) x6 (by kernel_rfl) (by kernel_rfl) (by simp) (by kernel_rfl) (by kernel_rfl) (.inl rfl) (fun w542 g543 x544 s545 => ?_)
          have ho546 := own_grown ho1_c3_1 g543 (fun j e1 e2 => by cases e2; exact nb1_c3_1_b2 e1.symm)
          refine F.endF [(0, .pointer (some ⟨B, 0, none⟩)), (2, .pointer (some ⟨b2, 0, none⟩)), (3, .pointer (some ⟨b20, 0, none⟩)), (4, .int .i64 d1), (5, .int .i64 ((i : Nat) : Int)), (7, .int .i64 z), (16, .bool false), (67, .bool false)] (fun U547 => ?_)
          have x206 := Cur.grown x206 s545 (fun e9 => ne9 (Option.some.inj e9)) (fun j e => by cases e; exact Nat.le_trans hN lo8)
          have x31 := SG.blk s545 x31 (fun e9 => ne28 (Option.some.inj e9).symm)
          have c548 := (SG.fr (B := B) c211 s545 (fun kq e => .inr (by cases e; exact lo8)))
          refine h24 _ _ ?_
          refine wp_ret ?_
          try simp only [Exit.then]
          refine retC rfl rfl (by kernel_rfl) (by kernel_rfl) x544 ?_
          exact ⟨_, _, _, _, ps1, rfl, ⟨ho546, ⟨by omega, by omega⟩, by omega, hps1⟩, Cur.mono x206 (by omega), c548⟩
      · refine F.q (v := .bool false) (hr := (r_gtr (m := 1 + x13) (n := 1) rfl (ev_any (by kernel_rfl)) (ev_any (by kernel_rfl)) (decide_eq_false q213))) (h := ?_)
        refine F.q (v := .bool false) (hr := (r_pick (b := true) rfl (ev_any (by kernel_rfl)) (ev_any (by kernel_rfl)))) (h := ?_)
        refine F.mv (v := .bool false) (h := ?_)
        refine F.sp rfl (h := ?_)
        refine F.sp rfl (h := ?_)
        refine F.sp rfl (h := ?_)
        refine F.sp rfl (h := ?_)
        refine F.q (v := .bool false) (hr := (r_pick (b := false) rfl (ev_any (by kernel_rfl)) (ev_any (by kernel_rfl)))) (h := ?_)
        refine F.endF [(0, .pointer (some ⟨B, 0, none⟩)), (2, .pointer (some ⟨b2, 0, none⟩)), (3, .pointer (some ⟨b20, 0, none⟩)), (4, .int .i64 d1), (5, .int .i64 ((i : Nat) : Int)), (7, .int .i64 z), (16, .bool false), (67, .bool false)] (fun U549 => ?_)
        refine h20 _ _ ?_
        refine wp_cond_false (by kernel_rfl) ?_
        refine wp_exit ?_
        refine h16 _ _ ?_
        refine wp_seq_k (fun K25 h25 => ?_)
        refine W.region_plain (row := (some b2)) [(0, false), (1, true)] (by kernel_rfl) ?_
        have s550 := SG.self wl1 (some b2)
        refine F.q (v := .agg #[.int .i64 (1 + x13), .slice A1_c3_1 n1_c3_1 c1_c3_1]) (hr := (r_load2 rfl (ev_any (by kernel_rfl)) (by kernel_rfl) (by kernel_rfl) (sgS (blk_cell (j := 0) x31 (by kernel_rfl)) (fun e9 => ne28 (Option.some.inj e9).symm)) (sgS (blk_cell (j := 1) x31 (by kernel_rfl)) (fun e9 => ne28 (Option.some.inj e9).symm)))) (h := ?_)
        refine W.ss (v := .agg #[.int .i64 (1 + x13), .slice A1_c3_1 n1_c3_1 c1_c3_1]) (j := 0) (news := [.int .i64 (1 + x13), .slice A1_c3_1 n1_c3_1 c1_c3_1]) (cs' := #[.int .i64 (1 + x13), .slice A1_c3_1 n1_c3_1 c1_c3_1]) s550 rfl (by kernel_rfl) rfl rfl (by kernel_rfl) (by kernel_rfl) x6 (by kernel_rfl) (by kernel_rfl) (by simp) (by kernel_rfl) (by kernel_rfl) (.inl rfl) (fun w551 g552 x553 s554 => ?_)
        have ho555 := own_grown ho1_c3_1 g552 (fun j e1 e2 => by cases e2; exact nb1_c3_1_b2 e1.symm)
        refine F.endF [(0, .pointer (some ⟨B, 0, none⟩)), (2, .pointer (some ⟨b2, 0, none⟩)), (3, .pointer (some ⟨b20, 0, none⟩)), (4, .int .i64 d1), (5, .int .i64 ((i : Nat) : Int)), (7, .int .i64 z), (16, .bool false), (67, .bool false)] (fun U556 => ?_)
        have x206 := Cur.grown x206 s554 (fun e9 => ne9 (Option.some.inj e9)) (fun j e => by cases e; exact Nat.le_trans hN lo8)
        have x31 := SG.blk s554 x31 (fun e9 => ne28 (Option.some.inj e9).symm)
        have c557 := (SG.fr (B := B) c211 s554 (fun kq e => .inr (by cases e; exact lo8)))
        refine h25 _ _ ?_
        refine wp_ret ?_
        try simp only [Exit.then]
        refine retC rfl rfl (by kernel_rfl) (by kernel_rfl) x553 ?_
        exact ⟨_, _, _, _, ps1, rfl, ⟨ho555, ⟨by omega, by omega⟩, by omega, hps1⟩, Cur.mono x206 (by omega), c557⟩
    · refine F.q (v := .bool false) (hr := (r_gtr (m := z) (n := 0) rfl (ev_any (by kernel_rfl)) (ev_any (by kernel_rfl)) (decide_eq_false q212))) (h := ?_)
      refine F.mv (v := .bool false) (h := ?_)
      refine F.sp rfl (h := ?_)
      refine F.sp rfl (h := ?_)
      refine F.sp rfl (h := ?_)
      refine F.q (v := .bool false) (hr := (r_pick (b := false) rfl (ev_any (by kernel_rfl)) (ev_any (by kernel_rfl)))) (h := ?_)
      refine F.mv (v := .bool false) (h := ?_)
      refine F.sp rfl (h := ?_)
      refine F.sp rfl (h := ?_)
      refine F.sp rfl (h := ?_)
      refine F.sp rfl (h := ?_)
      refine F.q (v := .bool false) (hr := (r_pick (b := false) rfl (ev_any (by kernel_rfl)) (ev_any (by kernel_rfl)))) (h := ?_)
      refine F.endF [(0, .pointer (some ⟨B, 0, none⟩)), (2, .pointer (some ⟨b2, 0, none⟩)), (3, .pointer (some ⟨b20, 0, none⟩)), (4, .int .i64 d1), (5, .int .i64 ((i : Nat) : Int)), (7, .int .i64 z), (16, .bool false), (67, .bool false)] (fun U558 => ?_)
      refine h20 _ _ ?_
      refine wp_cond_false (by kernel_rfl) ?_
      refine wp_exit ?_
      refine h16 _ _ ?_
      refine wp_seq_k (fun K26 h26 => ?_)
      refine W.region_plain (row := (some b2)) [(0, false), (1, true)] (by kernel_rfl) ?_
      have s559 := SG.self wl1 (some b2)
      refine F.q (v := .agg #[.int .i64 (1 + x13), .slice A1_c3_1 n1_c3_1 c1_c3_1]) (hr := (r_load2 rfl (ev_any (by kernel_rfl)) (by kernel_rfl) (by kernel_rfl) (sgS (blk_cell (j := 0) x31 (by kernel_rfl)) (fun e9 => ne28 (Option.some.inj e9).symm)) (sgS (blk_cell (j := 1) x31 (by kernel_rfl)) (fun e9 => ne28 (Option.some.inj e9).symm)))) (h := ?_)
      refine W.ss (v := .agg #[.int .i64 (1 + x13), .slice A1_c3_1 n1_c3_1 c1_c3_1]) (j := 0) (news := [.int .i64 (1 + x13), .slice A1_c3_1 n1_c3_1 c1_c3_1]) (cs' := #[.int .i64 (1 + x13), .slice A1_c3_1 n1_c3_1 c1_c3_1]) s559 rfl (by kernel_rfl) rfl rfl (by kernel_rfl) (by kernel_rfl) x6 (by kernel_rfl) (by kernel_rfl) (by simp) (by kernel_rfl) (by kernel_rfl) (.inl rfl) (fun w560 g561 x562 s563 => ?_)
      have ho564 := own_grown ho1_c3_1 g561 (fun j e1 e2 => by cases e2; exact nb1_c3_1_b2 e1.symm)
      refine F.endF [(0, .pointer (some ⟨B, 0, none⟩)), (2, .pointer (some ⟨b2, 0, none⟩)), (3, .pointer (some ⟨b20, 0, none⟩)), (4, .int .i64 d1), (5, .int .i64 ((i : Nat) : Int)), (7, .int .i64 z), (16, .bool false), (67, .bool false)] (fun U565 => ?_)
      have x206 := Cur.grown x206 s563 (fun e9 => ne9 (Option.some.inj e9)) (fun j e => by cases e; exact Nat.le_trans hN lo8)
      have x31 := SG.blk s563 x31 (fun e9 => ne28 (Option.some.inj e9).symm)
      have c566 := (SG.fr (B := B) c211 s563 (fun kq e => .inr (by cases e; exact lo8)))
      refine h26 _ _ ?_
      refine wp_ret ?_
      try simp only [Exit.then]
      refine retC rfl rfl (by kernel_rfl) (by kernel_rfl) x562 ?_
      exact ⟨_, _, _, _, ps1, rfl, ⟨ho564, ⟨by omega, by omega⟩, by omega, hps1⟩, Cur.mono x206 (by omega), c566⟩

set_option maxRecDepth 100000 in
set_option maxHeartbeats 8000000 in
theorem anyNetwork_any (B N k : Nat)  (w : World) (hc : Cur w B N k) (hk : k ≤ 700000000000)  :
    Calls Try.prog 46 #[.pointer (some ⟨B, 0, none⟩)] w fun e w' => ∃ (m : Int) (A' : Option Addr) (n' c' : Nat) (ps : List Pp), e = .returned (.agg #[.int .i64 m, .slice A' n' c']) ∧ (w'.ownsRow w.heap.size 51 4 (.slice A' n' c') n' (pipesV ps) ∧ smD 30 m ps) ∧ Cur w' B N (k + 400) ∧ w.grownBy w' (some B) := by
  have hN := Cur.hN hc
  go_enter Try.func46, Try.ntmps46
  refine wp_seq_k (fun K1 h1 => ?_)
  refine W.region_plain (row := none) [(0, true)] (by kernel_rfl) ?_
  have s1 := SG.self w none
  refine W.sn (fun b => .pointer (some ⟨b, 0, none⟩)) #[.int .i64 0, .slice none 0 0] 31 s1 rfl (by kernel_rfl) rfl (fun _ => by kernel_rfl) (fun b2 w3 hb4 k5 x6 s7 => ?_)
  have lo8 : w.heap.size ≤ b2 := Nat.le_trans ((SG.fr (B := B) (World.grownBy.refl _ _) s1 (fun kq e => by cases e))).size (Nat.le_of_eq hb4)
  have ne9 : B ≠ b2 := Nat.ne_of_lt (Nat.lt_of_lt_of_eq (Nat.lt_of_lt_of_le (Cur.lt hc) (s1).size) hb4)
  refine W.endF 80 [(0, .pointer (some ⟨B, 0, none⟩)), (2, .pointer (some ⟨b2, 0, none⟩))] (fun U10 => ?_)
  have hc := Cur.below hc (SG.below s7)
  have c11 := (SG.fr (B := B) (World.grownBy.refl _ _) s7 (fun kq e => by cases e))
  refine h1 _ _ ?_
  refine wp_seq_k (fun K2 h2 => ?_)
  refine W.region_plain (row := (some B)) [(0, false), (1, true), (2, true), (3, true)] (by kernel_rfl) ?_
  have s12 := SG.self w3 (some B)
  refine F.mv (v := .pointer (some ⟨B, 0, none⟩)) (h := ?_)
  have z20 := ((SG.fr (B := B) c11 s12 (fun kq e => .inl (by cases e; rfl)))).size
  have lb24 := (Cur.lt hc)
  have lb25 := (Nat.lt_of_lt_of_le (blk_lt x6) (s12).size)
  refine W.sc (vs := [.pointer (some ⟨B, 0, none⟩)]) rfl rfl (by kernel_rfl) (by kernel_rfl) (by kernel_rfl) rfl (network_any B N k _ hc (by omega)) ?_
  rintro e w27 ⟨m13, A14, n15, c16, ps17, rfl, ⟨ho18, hsm19⟩, x29, g28⟩
  have s30 := SG.of_grown s12 g28 (.inl rfl)
  refine ⟨_, rfl, s30, ?_⟩
  refine F.nx ?_
  have ho21 := own_base (base' := w.heap.size) ho18 z20
  have hl22 := rd_pipes_len (own_rd ho21)
  have hsm19m := hsm19.1
  have hsm19n := hsm19.2.1
  have nb31 : Nb B (.slice A14 n15 c16) := nb_lo ho18 lb24
  have nb32 : Nb b2 (.slice A14 n15 c16) := nb_lo ho18 lb25
  refine W.sn (fun b => .pointer (some ⟨b, 0, none⟩)) #[.int .i64 0, .slice none 0 0] 31 s30 rfl (by kernel_rfl) rfl (fun _ => by kernel_rfl) (fun b33 w34 hb35 k36 x37 s38 => ?_)
  refine F.nx ?_
  have lo39 : w.heap.size ≤ b33 := Nat.le_trans ((SG.fr (B := B) c11 s30 (fun kq e => .inl (by cases e; rfl)))).size (Nat.le_of_eq hb35)
  have ne40 : B ≠ b33 := Nat.ne_of_lt (Nat.lt_of_lt_of_eq (Cur.lt x29) hb35)
  have ne41 : b2 ≠ b33 := Nat.ne_of_lt (Nat.lt_of_lt_of_eq (Nat.lt_of_lt_of_le (blk_lt x6) (s30).size) hb35)
  have nb42 : Nb b33 (.slice A14 n15 c16) := nb_hi ho21 (Nat.le_of_eq hb35)
  have x29 := Cur.below x29 k36
  have ho43 := own_kept ho21 k36
  refine W.ss (v := .agg #[.int .i64 m13, .slice A14 n15 c16]) (j := 0) (news := [.int .i64 m13, .slice A14 n15 c16]) (cs' := #[.int .i64 m13, .slice A14 n15 c16]) s38 rfl (by kernel_rfl) rfl rfl (by kernel_rfl) (by kernel_rfl) x37 (by kernel_rfl) (by kernel_rfl) (by simp) (by kernel_rfl) (by kernel_rfl) (.inr (Nat.le_trans (s30).size (Nat.le_of_eq hb35))) (fun w44 g45 x46 s47 => ?_)
  have x29 := Cur.grown x29 g45 (fun e9 => ne40 (Option.some.inj e9)) (fun j e => by cases e; exact Nat.le_trans hN lo39)
  have ho48 := own_grown ho43 g45 (fun j e1 e2 => by cases e2; exact nb42 e1.symm)
  refine F.endF [(0, .pointer (some ⟨B, 0, none⟩)), (2, .pointer (some ⟨b2, 0, none⟩)), (3, .pointer (some ⟨b33, 0, none⟩))] (fun U49 => ?_)
  have x6 := SG.blk s47 x6 (fun e9 => ne9 (Option.some.inj e9).symm)
  have c50 := (SG.fr (B := B) c11 s47 (fun kq e => .inl (by cases e; rfl)))
  refine h2 _ _ ?_
  refine wp_seq_k (fun K3 h3 => ?_)
  refine W.region_plain (row := none) [(0, false), (1, true), (2, true)] (by kernel_rfl) ?_
  have s51 := SG.self w44 none
  refine F.q (v := .agg #[.int .i64 99, .int .i64 1, .int .i64 2, .int .i64 1]) (hr := (r_build rfl (vs := [(0, .int .i64 99), (1, .int .i64 1), (2, .int .i64 2), (3, .int .i64 1)]) (by kernel_rfl) (by kernel_rfl))) (h := ?_)
  refine W.sn (fun b => .pointer (some ⟨b, 0, none⟩)) #[.int .i64 0, .int .i64 0, .int .i64 0, .int .i64 0] 51 s51 rfl (by kernel_rfl) rfl (fun _ => by kernel_rfl) (fun b52 w53 hb54 k55 x56 s57 => ?_)
  refine F.nx ?_
  have lo58 : w.heap.size ≤ b52 := Nat.le_trans ((SG.fr (B := B) c50 s51 (fun kq e => by cases e))).size (Nat.le_of_eq hb54)
  have ne59 : B ≠ b52 := Nat.ne_of_lt (Nat.lt_of_lt_of_eq (Nat.lt_of_lt_of_le (Cur.lt x29) (s51).size) hb54)
  have ne60 : b2 ≠ b52 := Nat.ne_of_lt (Nat.lt_of_lt_of_eq (Nat.lt_of_lt_of_le (blk_lt x6) (s51).size) hb54)
  have ne61 : b33 ≠ b52 := Nat.ne_of_lt (Nat.lt_of_lt_of_eq (Nat.lt_of_lt_of_le (blk_lt x46) (s51).size) hb54)
  have nb62 : Nb b52 (.slice A14 n15 c16) := nb_hi ho48 (Nat.le_of_eq hb54)
  have ho63 := own_kept ho48 k55
  refine W.ss (v := .agg #[.int .i64 99, .int .i64 1, .int .i64 2, .int .i64 1]) (j := 0) (news := [.int .i64 99, .int .i64 1, .int .i64 2, .int .i64 1]) (cs' := #[.int .i64 99, .int .i64 1, .int .i64 2, .int .i64 1]) s57 rfl (by kernel_rfl) rfl rfl (by kernel_rfl) (by kernel_rfl) x56 (by kernel_rfl) (by kernel_rfl) (by simp) (by kernel_rfl) (by kernel_rfl) (.inr (Nat.le_trans (s51).size (Nat.le_of_eq hb54))) (fun w64 g65 x66 s67 => ?_)
  have ho68 := own_grown ho63 g65 (fun j e1 e2 => by cases e2; exact nb62 e1.symm)
  refine F.endF [(0, .pointer (some ⟨B, 0, none⟩)), (2, .pointer (some ⟨b2, 0, none⟩)), (3, .pointer (some ⟨b33, 0, none⟩)), (4, .pointer (some ⟨b52, 0, none⟩))] (fun U69 => ?_)
  have x29 := Cur.below x29 (SG.below s67)
  have x6 := SG.blk s67 x6 (Option.some_ne_none _)
  have x46 := SG.blk s67 x46 (Option.some_ne_none _)
  have c70 := (SG.fr (B := B) c50 s67 (fun kq e => by cases e))
  refine h3 _ _ ?_
  refine wp_seq_k (fun K4 h4 => ?_)
  refine wp_seq_k (fun K5 h5 => ?_)
  refine W.region_plain (row := (some B)) [(0, false), (1, true)] (by kernel_rfl) ?_
  have s71 := SG.self w64 (some B)
  refine F.mv (v := .pointer (some ⟨B, 0, none⟩)) (h := ?_)
  refine W.sc (vs := [.pointer (some ⟨B, 0, none⟩), .int .i64 24]) rfl rfl (by kernel_rfl) (by kernel_rfl) (by kernel_rfl) rfl (pick_any B N (k + 300) 24 _ x29 (by omega) (by omega)) ?_
  rintro e w75 ⟨x72, rfl, hx73, x77, g76⟩
  have s78 := SG.of_grown s71 g76 (.inl rfl)
  refine ⟨_, rfl, s78, ?_⟩
  refine F.nx ?_
  have ho79 := own_grown ho68 g76 (fun j e1 e2 => by cases e2; exact nb31 e1.symm)
  refine F.endF [(0, .pointer (some ⟨B, 0, none⟩)), (2, .pointer (some ⟨b2, 0, none⟩)), (3, .pointer (some ⟨b33, 0, none⟩)), (4, .pointer (some ⟨b52, 0, none⟩)), (10, .int .i64 x72)] (fun U80 => ?_)
  have x6 := SG.blk s78 x6 (fun e9 => ne9 (Option.some.inj e9).symm)
  have x46 := SG.blk s78 x46 (fun e9 => ne40 (Option.some.inj e9).symm)
  have x66 := SG.blk s78 x66 (fun e9 => ne59 (Option.some.inj e9).symm)
  have c81 := (SG.fr (B := B) c70 s78 (fun kq e => .inl (by cases e; rfl)))
  refine h5 _ _ ?_
  refine wp_block ?_
  refine wp_seq_k (fun K6 h6 => ?_)
  refine W.region_quiet [(0, false), (1, false)] (by kernel_rfl) ?_
  by_cases q82 : (x72 : Int) = (0 : Int)
  · refine F.q (v := .bool true) (hr := (r_eql (m := x72) (n := 0) rfl (ev_any (by kernel_rfl)) (ev_any (by kernel_rfl)) (decide_eq_true q82))) (h := ?_)
    refine F.as (v := .bool true) (h := ?_)
    refine F.endF [(0, .pointer (some ⟨B, 0, none⟩)), (2, .pointer (some ⟨b2, 0, none⟩)), (3, .pointer (some ⟨b33, 0, none⟩)), (4, .pointer (some ⟨b52, 0, none⟩)), (10, .int .i64 x72), (11, .bool true)] (fun U83 => ?_)
    refine h6 _ _ ?_
    refine wp_cond_true (by kernel_rfl) ?_
    refine M.region_plain (row := [(some B), (some b33)]) [(0, false), (1, true), (2, true), (3, false), (4, true)] (by kernel_rfl) ?_
    have s84 := SM.self w75 [(some B), (some b33)]
    refine F.mv (v := .pointer (some ⟨B, 0, none⟩)) (h := ?_)
    refine M.sn (fun b => .slice (some ⟨b, 0, none⟩) 4 4) #[.int .i64 0, .int .i64 9, .int .i64 8, .int .i64 1] 3 s84 rfl (by kernel_rfl) rfl (fun _ => by kernel_rfl) (fun b85 w86 hb87 k88 x89 s90 => ?_)
    refine F.nx ?_
    have lo91 : w.heap.size ≤ b85 := Nat.le_trans ((SM.fr (B := B) c81 s84 (in2 (fun kq e => .inl (by cases e; rfl)) (fun kq e => .inr (by cases e; exact lo39))))).size (Nat.le_of_eq hb87)
    have ne92 : B ≠ b85 := Nat.ne_of_lt (Nat.lt_of_lt_of_eq (Cur.lt x77) hb87)
    have ne93 : b2 ≠ b85 := Nat.ne_of_lt (Nat.lt_of_lt_of_eq (Nat.lt_of_lt_of_le (blk_lt x6) (s84).size) hb87)
    have ne94 : b33 ≠ b85 := Nat.ne_of_lt (Nat.lt_of_lt_of_eq (blk_lt x46) hb87)
    have ne95 : b52 ≠ b85 := Nat.ne_of_lt (Nat.lt_of_lt_of_eq (Nat.lt_of_lt_of_le (blk_lt x66) (s84).size) hb87)
    have nb96 : Nb b85 (.slice A14 n15 c16) := nb_hi ho79 (Nat.le_of_eq hb87)
    have x77 := Cur.below x77 k88
    have x46 := (k88.block _ (blk_lt x46)).trans x46
    have ho97 := own_kept ho79 k88
    refine W.sc (vs := [.pointer (some ⟨B, 0, none⟩), .slice (some ⟨b85, 0, none⟩) 4 4]) rfl rfl (by kernel_rfl) (by kernel_rfl) (by kernel_rfl) rfl (among_any B N ((k + 300) + 2) (some ⟨b85, 0, none⟩) 4 4 [0, 9, 8, 1] _ x77 (by omega) (rd_blk x89 rfl rfl) (sp_ne (by have := ne92; omega)) (by omega)) ?_
    rintro e w102 ⟨x98, rfl, hx99, x104, g103⟩
    have s105 := SM.of_grown s90 g103 (.inl (by simp))
    refine ⟨_, rfl, s105, ?_⟩
    refine F.nx ?_
    have x46 := (g103.block _ (blk_lt x46) (fun e9 => ne40 (Option.some.inj e9).symm)).trans x46
    have x89 := (g103.block _ (blk_lt x89) (fun e9 => ne92 (Option.some.inj e9).symm)).trans x89
    have ho106 := own_grown ho97 g103 (fun j e1 e2 => by cases e2; exact nb31 e1.symm)
    have hb100 := bnd_of (0) 9 hx99 (by decide)
    refine F.q (v := .pointer (some ⟨b33, 0, none⟩)) (hr := (r_field0 rfl (ev_any (by kernel_rfl)) (by kernel_rfl))) (h := ?_)
    refine M.ss (v := .int .i64 x98) (j := 0) (news := [.int .i64 x98]) (cs' := #[.int .i64 x98, .slice A14 n15 c16]) s105 rfl (by kernel_rfl) rfl rfl (by kernel_rfl) (by kernel_rfl) x46 (by kernel_rfl) (by kernel_rfl) (by simp) (by kernel_rfl) (by kernel_rfl) (.inl (by simp)) (fun w107 g108 x109 s110 => ?_)
    have x104 := Cur.grown x104 g108 (fun e9 => ne40 (Option.some.inj e9)) (fun j e => by cases e; exact Nat.le_trans hN lo39)
    have x89 := (g108.block _ (blk_lt x89) (fun e9 => ne94 (Option.some.inj e9).symm)).trans x89
    have ho111 := own_grown ho106 g108 (fun j e1 e2 => by cases e2; exact nb42 e1.symm)
    refine F.endF [(0, .pointer (some ⟨B, 0, none⟩)), (2, .pointer (some ⟨b2, 0, none⟩)), (3, .pointer (some ⟨b33, 0, none⟩)), (4, .pointer (some ⟨b52, 0, none⟩)), (10, .int .i64 x72), (11, .bool true)] (fun U112 => ?_)
    have x6 := SM.blk s110 x6 (ne2 (fun e9 => ne9 (Option.some.inj e9).symm) (fun e9 => ne41 (Option.some.inj e9)))
    have x66 := SM.blk s110 x66 (ne2 (fun e9 => ne59 (Option.some.inj e9).symm) (fun e9 => ne61 (Option.some.inj e9).symm))
    have c113 := (SM.fr (B := B) c81 s110 (in2 (fun kq e => .inl (by cases e; rfl)) (fun kq e => .inr (by cases e; exact lo39))))
    refine h4 _ _ ?_
    refine wp_seq_k (fun K7 h7 => ?_)
    refine W.region_plain (row := (some b2)) [(0, false), (1, true)] (by kernel_rfl) ?_
    have s114 := SG.self w107 (some b2)
    refine F.q (v := .agg #[.int .i64 x98, .slice A14 n15 c16]) (hr := (r_load2 rfl (ev_any (by kernel_rfl)) (by kernel_rfl) (by kernel_rfl) (sgS (blk_cell (j := 0) x109 (by kernel_rfl)) (fun e9 => ne41 (Option.some.inj e9).symm)) (sgS (blk_cell (j := 1) x109 (by kernel_rfl)) (fun e9 => ne41 (Option.some.inj e9).symm)))) (h := ?_)
    refine W.ss (v := .agg #[.int .i64 x98, .slice A14 n15 c16]) (j := 0) (news := [.int .i64 x98, .slice A14 n15 c16]) (cs' := #[.int .i64 x98, .slice A14 n15 c16]) s114 rfl (by kernel_rfl) rfl rfl (by kernel_rfl) (by kernel_rfl) x6 (by kernel_rfl) (by kernel_rfl) (by simp) (by kernel_rfl) (by kernel_rfl) (.inl rfl) (fun w115 g116 x117 s118 => ?_)
    have ho119 := own_grown ho111 g116 (fun j e1 e2 => by cases e2; exact nb32 e1.symm)
    refine F.endF [(0, .pointer (some ⟨B, 0, none⟩)), (2, .pointer (some ⟨b2, 0, none⟩)), (3, .pointer (some ⟨b33, 0, none⟩)), (4, .pointer (some ⟨b52, 0, none⟩)), (10, .int .i64 x72), (11, .bool true)] (fun U120 => ?_)
    have x104 := Cur.grown x104 s118 (fun e9 => ne9 (Option.some.inj e9)) (fun j e => by cases e; exact Nat.le_trans hN lo8)
    have x109 := SG.blk s118 x109 (fun e9 => ne41 (Option.some.inj e9).symm)
    have x66 := SG.blk s118 x66 (fun e9 => ne60 (Option.some.inj e9).symm)
    have x89 := SG.blk s118 x89 (fun e9 => ne93 (Option.some.inj e9).symm)
    have c121 := (SG.fr (B := B) c113 s118 (fun kq e => .inr (by cases e; exact lo8)))
    refine h7 _ _ ?_
    refine wp_ret ?_
    try simp only [Exit.then]
    refine retC rfl rfl (by kernel_rfl) (by kernel_rfl) x117 ?_
    exact ⟨_, _, _, _, ps17, rfl, ⟨ho119, ⟨by omega, by omega⟩, by omega, hsm19.2.2⟩, Cur.mono x104 (by omega), c121⟩
  · refine F.q (v := .bool false) (hr := (r_eql (m := x72) (n := 0) rfl (ev_any (by kernel_rfl)) (ev_any (by kernel_rfl)) (decide_eq_false q82))) (h := ?_)
    refine F.as (v := .bool false) (h := ?_)
    refine F.endF [(0, .pointer (some ⟨B, 0, none⟩)), (2, .pointer (some ⟨b2, 0, none⟩)), (3, .pointer (some ⟨b33, 0, none⟩)), (4, .pointer (some ⟨b52, 0, none⟩)), (10, .int .i64 x72), (11, .bool false)] (fun U122 => ?_)
    refine h6 _ _ ?_
    refine wp_cond_false (by kernel_rfl) ?_
    refine wp_seq_k (fun K8 h8 => ?_)
    refine W.region_quiet [(0, false), (1, false)] (by kernel_rfl) ?_
    by_cases q123 : (x72 : Int) = (1 : Int)
    · refine F.q (v := .bool true) (hr := (r_eql (m := x72) (n := 1) rfl (ev_any (by kernel_rfl)) (ev_any (by kernel_rfl)) (decide_eq_true q123))) (h := ?_)
      refine F.as (v := .bool true) (h := ?_)
      refine F.endF [(0, .pointer (some ⟨B, 0, none⟩)), (2, .pointer (some ⟨b2, 0, none⟩)), (3, .pointer (some ⟨b33, 0, none⟩)), (4, .pointer (some ⟨b52, 0, none⟩)), (10, .int .i64 x72), (11, .bool false), (17, .bool true)] (fun U124 => ?_)
      refine h8 _ _ ?_
      refine wp_cond_true (by kernel_rfl) ?_
      refine wp_seq_k (fun K9 h9 => ?_)
      refine M.region_plain (row := [(some B), (some b52)]) [(0, false), (1, true), (2, true), (3, false), (4, true)] (by kernel_rfl) ?_
      have s125 := SM.self w75 [(some B), (some b52)]
      refine F.mv (v := .pointer (some ⟨B, 0, none⟩)) (h := ?_)
      refine M.sn (fun b => .slice (some ⟨b, 0, none⟩) 3 3) #[.int .i64 1, .int .i64 100, .int .i64 99] 3 s125 rfl (by kernel_rfl) rfl (fun _ => by kernel_rfl) (fun b126 w127 hb128 k129 x130 s131 => ?_)
      refine F.nx ?_
      have lo132 : w.heap.size ≤ b126 := Nat.le_trans ((SM.fr (B := B) c81 s125 (in2 (fun kq e => .inl (by cases e; rfl)) (fun kq e => .inr (by cases e; exact lo58))))).size (Nat.le_of_eq hb128)
      have ne133 : B ≠ b126 := Nat.ne_of_lt (Nat.lt_of_lt_of_eq (Cur.lt x77) hb128)
      have ne134 : b2 ≠ b126 := Nat.ne_of_lt (Nat.lt_of_lt_of_eq (Nat.lt_of_lt_of_le (blk_lt x6) (s125).size) hb128)
      have ne135 : b33 ≠ b126 := Nat.ne_of_lt (Nat.lt_of_lt_of_eq (Nat.lt_of_lt_of_le (blk_lt x46) (s125).size) hb128)
      have ne136 : b52 ≠ b126 := Nat.ne_of_lt (Nat.lt_of_lt_of_eq (blk_lt x66) hb128)
      have nb137 : Nb b126 (.slice A14 n15 c16) := nb_hi ho79 (Nat.le_of_eq hb128)
      have x77 := Cur.below x77 k129
      have x66 := (k129.block _ (blk_lt x66)).trans x66
      have ho138 := own_kept ho79 k129
      refine W.sc (vs := [.pointer (some ⟨B, 0, none⟩), .slice (some ⟨b126, 0, none⟩) 3 3]) rfl rfl (by kernel_rfl) (by kernel_rfl) (by kernel_rfl) rfl (among_any B N ((k + 300) + 2) (some ⟨b126, 0, none⟩) 3 3 [1, 100, 99] _ x77 (by omega) (rd_blk x130 rfl rfl) (sp_ne (by have := ne133; omega)) (by omega)) ?_
      rintro e w143 ⟨x139, rfl, hx140, x145, g144⟩
      have s146 := SM.of_grown s131 g144 (.inl (by simp))
      refine ⟨_, rfl, s146, ?_⟩
      refine F.nx ?_
      have x66 := (g144.block _ (blk_lt x66) (fun e9 => ne59 (Option.some.inj e9).symm)).trans x66
      have x130 := (g144.block _ (blk_lt x130) (fun e9 => ne133 (Option.some.inj e9).symm)).trans x130
      have ho147 := own_grown ho138 g144 (fun j e1 e2 => by cases e2; exact nb31 e1.symm)
      have hb141 := bnd_of (1) 100 hx140 (by decide)
      refine F.q (v := .pointer (some ⟨b52, 0, none⟩)) (hr := (r_field0 rfl (ev_any (by kernel_rfl)) (by kernel_rfl))) (h := ?_)
      refine M.ss (v := .int .i64 x139) (j := 0) (news := [.int .i64 x139]) (cs' := #[.int .i64 x139, .int .i64 1, .int .i64 2, .int .i64 1]) s146 rfl (by kernel_rfl) rfl rfl (by kernel_rfl) (by kernel_rfl) x66 (by kernel_rfl) (by kernel_rfl) (by simp) (by kernel_rfl) (by kernel_rfl) (.inl (by simp)) (fun w148 g149 x150 s151 => ?_)
      have x145 := Cur.grown x145 g149 (fun e9 => ne59 (Option.some.inj e9)) (fun j e => by cases e; exact Nat.le_trans hN lo58)
      have x130 := (g149.block _ (blk_lt x130) (fun e9 => ne136 (Option.some.inj e9).symm)).trans x130
      have ho152 := own_grown ho147 g149 (fun j e1 e2 => by cases e2; exact nb62 e1.symm)
      refine F.endF [(0, .pointer (some ⟨B, 0, none⟩)), (2, .pointer (some ⟨b2, 0, none⟩)), (3, .pointer (some ⟨b33, 0, none⟩)), (4, .pointer (some ⟨b52, 0, none⟩)), (10, .int .i64 x72), (11, .bool false), (17, .bool true)] (fun U153 => ?_)
      have x6 := SM.blk s151 x6 (ne2 (fun e9 => ne9 (Option.some.inj e9).symm) (fun e9 => ne60 (Option.some.inj e9)))
      have x46 := SM.blk s151 x46 (ne2 (fun e9 => ne40 (Option.some.inj e9).symm) (fun e9 => ne61 (Option.some.inj e9)))
      have c154 := (SM.fr (B := B) c81 s151 (in2 (fun kq e => .inl (by cases e; rfl)) (fun kq e => .inr (by cases e; exact lo58))))
      refine h9 _ _ ?_
      refine M.region_plain (row := [(Value.ownBlock (.slice A14 n15 c16)), (some b33)]) [(0, false), (1, true), (2, false), (3, true), (4, true), (5, false), (6, true)] (by kernel_rfl) ?_
      have s155 := SM.self w148 [(Value.ownBlock (.slice A14 n15 c16)), (some b33)]
      refine F.q (v := .pointer (some ⟨b33, 1, none⟩)) (hr := (r_field (k := 1) rfl (ev_any (by kernel_rfl)) (by kernel_rfl))) (h := ?_)
      refine W.slq (v := .slice A14 n15 c16) s155 rfl (r_load rfl (by kernel_rfl) (by kernel_rfl) (eqS (blk_cell (j := 1) x46 (by kernel_rfl)))) (by kernel_rfl) rfl ?_
      refine F.nx ?_
      refine F.q (v := .agg #[.int .i64 x139, .int .i64 1, .int .i64 2, .int .i64 1]) (hr := (r_load4 rfl (ev_any (by kernel_rfl)) (by kernel_rfl) (by kernel_rfl) (smS (blk_cell (j := 0) x150 (by kernel_rfl)) (ne2 nb62 (fun e9 => ne61 (Option.some.inj e9).symm))) (smS (blk_cell (j := 1) x150 (by kernel_rfl)) (ne2 nb62 (fun e9 => ne61 (Option.some.inj e9).symm))) (smS (blk_cell (j := 2) x150 (by kernel_rfl)) (ne2 nb62 (fun e9 => ne61 (Option.some.inj e9).symm))) (smS (blk_cell (j := 3) x150 (by kernel_rfl)) (ne2 nb62 (fun e9 => ne61 (Option.some.inj e9).symm))))) (h := ?_)
      refine M.sn (fun b => .slice (some ⟨b, 0, none⟩) 1 1) #[.int .i64 x139, .int .i64 1, .int .i64 2, .int .i64 1] 51 s155 rfl (by kernel_rfl) rfl (fun _ => by kernel_rfl) (fun b156 w157 hb158 k159 x160 s161 => ?_)
      refine F.nx ?_
      have lo162 : w.heap.size ≤ b156 := Nat.le_trans ((SM.fr (B := B) c154 s155 (in2 (fun kq e => .inr (World.ownsRow.lt ho152 kq e).1) (fun kq e => .inr (by cases e; exact lo39))))).size (Nat.le_of_eq hb158)
      have ne163 : B ≠ b156 := Nat.ne_of_lt (Nat.lt_of_lt_of_eq (Nat.lt_of_lt_of_le (Cur.lt x145) (s155).size) hb158)
      have ne164 : b2 ≠ b156 := Nat.ne_of_lt (Nat.lt_of_lt_of_eq (Nat.lt_of_lt_of_le (blk_lt x6) (s155).size) hb158)
      have ne165 : b33 ≠ b156 := Nat.ne_of_lt (Nat.lt_of_lt_of_eq (blk_lt x46) hb158)
      have ne166 : b52 ≠ b156 := Nat.ne_of_lt (Nat.lt_of_lt_of_eq (Nat.lt_of_lt_of_le (blk_lt x150) (s155).size) hb158)
      have ne167 : b126 ≠ b156 := Nat.ne_of_lt (Nat.lt_of_lt_of_eq (Nat.lt_of_lt_of_le (blk_lt x130) (s155).size) hb158)
      have nb168 : Nb b156 (.slice A14 n15 c16) := nb_hi ho152 (Nat.le_of_eq hb158)
      have x46 := (k159.block _ (blk_lt x46)).trans x46
      have ho169 := own_kept ho152 k159
      refine M.sap (e := 51) (size := 4) (base := w.heap.size) (m := 1) (v := .slice A14 n15 c16) (c := 1) s161 rfl rfl rfl rfl (by kernel_rfl) (by kernel_rfl) (by kernel_rfl) ho169 x160 (by kernel_rfl) (by kernel_rfl) (by omega) (by omega) (by have := ((SM.fr (B := B) c154 s161 (in2 (fun kq e => .inr (World.ownsRow.lt ho152 kq e).1) (fun kq e => .inr (by cases e; exact lo39))))).size; omega) (.inl (by simp)) (fun g170 cap171 w172 ho173 hg174 hat175 hlt176 s177 => ?_)
      refine F.nx ?_
      have nb178 : Nb B (.slice (some ⟨g170, 0, none⟩) (n15 + 1) cap171) := nb_app nb31 (Nat.lt_of_lt_of_le (Cur.lt x145) (s161).size) hat175
      have nb179 : Nb b2 (.slice (some ⟨g170, 0, none⟩) (n15 + 1) cap171) := nb_app nb32 (Nat.lt_of_lt_of_le (blk_lt x6) (s161).size) hat175
      have nb180 : Nb b33 (.slice (some ⟨g170, 0, none⟩) (n15 + 1) cap171) := nb_app nb42 (blk_lt x46) hat175
      have x46 := (hg174.block _ (blk_lt x46) nb42).trans x46
      have nb181 : Nb b52 (.slice (some ⟨g170, 0, none⟩) (n15 + 1) cap171) := nb_app nb62 (Nat.lt_of_lt_of_le (blk_lt x150) (s161).size) hat175
      have nb182 : Nb b126 (.slice (some ⟨g170, 0, none⟩) (n15 + 1) cap171) := nb_app nb137 (Nat.lt_of_lt_of_le (blk_lt x130) (s161).size) hat175
      have nb183 : Nb b156 (.slice (some ⟨g170, 0, none⟩) (n15 + 1) cap171) := nb_app nb168 (blk_lt x160) hat175
      have x160 := (hg174.block _ (blk_lt x160) nb168).trans x160
      have ho173 := own_snocP (x := (Pp.mk x139 1 2 1)) ho173
      refine F.q (v := .pointer (some ⟨b33, 1, none⟩)) (hr := (r_field (k := 1) rfl (ev_any (by kernel_rfl)) (by kernel_rfl))) (h := ?_)
      refine M.ss (v := .slice (some ⟨g170, 0, none⟩) (n15 + 1) cap171) (j := 1) (news := [.slice (some ⟨g170, 0, none⟩) (n15 + 1) cap171]) (cs' := #[.int .i64 m13, .slice (some ⟨g170, 0, none⟩) (n15 + 1) cap171]) s177 rfl (by kernel_rfl) rfl rfl (by kernel_rfl) (by kernel_rfl) x46 (by kernel_rfl) (by kernel_rfl) (by simp) (by kernel_rfl) (by kernel_rfl) (.inl (by simp)) (fun w184 g185 x186 s187 => ?_)
      have x160 := (g185.block _ (blk_lt x160) (fun e9 => ne165 (Option.some.inj e9).symm)).trans x160
      have ho188 := own_grown ho173 g185 (fun j e1 e2 => by cases e2; exact nb180 e1.symm)
      refine F.endF [(0, .pointer (some ⟨B, 0, none⟩)), (2, .pointer (some ⟨b2, 0, none⟩)), (3, .pointer (some ⟨b33, 0, none⟩)), (4, .pointer (some ⟨b52, 0, none⟩)), (10, .int .i64 x72), (11, .bool false), (17, .bool true)] (fun U189 => ?_)
      have x145 := Cur.sm x145 s187 (ne2 nb31 (fun e9 => ne40 (Option.some.inj e9))) (in2 (fun j e => Nat.le_trans hN (World.ownsRow.lt ho152 j e).1) (fun j e => by cases e; exact Nat.le_trans hN lo39))
      have x6 := SM.blk s187 x6 (ne2 nb32 (fun e9 => ne41 (Option.some.inj e9)))
      have x150 := SM.blk s187 x150 (ne2 nb62 (fun e9 => ne61 (Option.some.inj e9).symm))
      have x130 := SM.blk s187 x130 (ne2 nb137 (fun e9 => ne135 (Option.some.inj e9).symm))
      have c190 := (SM.fr (B := B) c154 s187 (in2 (fun kq e => .inr (World.ownsRow.lt ho152 kq e).1) (fun kq e => .inr (by cases e; exact lo39))))
      refine h4 _ _ ?_
      refine wp_seq_k (fun K10 h10 => ?_)
      refine W.region_plain (row := (some b2)) [(0, false), (1, true)] (by kernel_rfl) ?_
      have s191 := SG.self w184 (some b2)
      refine F.q (v := .agg #[.int .i64 m13, .slice (some ⟨g170, 0, none⟩) (n15 + 1) cap171]) (hr := (r_load2 rfl (ev_any (by kernel_rfl)) (by kernel_rfl) (by kernel_rfl) (sgS (blk_cell (j := 0) x186 (by kernel_rfl)) (fun e9 => ne41 (Option.some.inj e9).symm)) (sgS (blk_cell (j := 1) x186 (by kernel_rfl)) (fun e9 => ne41 (Option.some.inj e9).symm)))) (h := ?_)
      refine W.ss (v := .agg #[.int .i64 m13, .slice (some ⟨g170, 0, none⟩) (n15 + 1) cap171]) (j := 0) (news := [.int .i64 m13, .slice (some ⟨g170, 0, none⟩) (n15 + 1) cap171]) (cs' := #[.int .i64 m13, .slice (some ⟨g170, 0, none⟩) (n15 + 1) cap171]) s191 rfl (by kernel_rfl) rfl rfl (by kernel_rfl) (by kernel_rfl) x6 (by kernel_rfl) (by kernel_rfl) (by simp) (by kernel_rfl) (by kernel_rfl) (.inl rfl) (fun w192 g193 x194 s195 => ?_)
      have ho196 := own_grown ho188 g193 (fun j e1 e2 => by cases e2; exact nb179 e1.symm)
      refine F.endF [(0, .pointer (some ⟨B, 0, none⟩)), (2, .pointer (some ⟨b2, 0, none⟩)), (3, .pointer (some ⟨b33, 0, none⟩)), (4, .pointer (some ⟨b52, 0, none⟩)), (10, .int .i64 x72), (11, .bool false), (17, .bool true)] (fun U197 => ?_)
      have x145 := Cur.grown x145 s195 (fun e9 => ne9 (Option.some.inj e9)) (fun j e => by cases e; exact Nat.le_trans hN lo8)
      have x186 := SG.blk s195 x186 (fun e9 => ne41 (Option.some.inj e9).symm)
      have x150 := SG.blk s195 x150 (fun e9 => ne60 (Option.some.inj e9).symm)
      have x130 := SG.blk s195 x130 (fun e9 => ne134 (Option.some.inj e9).symm)
      have x160 := SG.blk s195 x160 (fun e9 => ne164 (Option.some.inj e9).symm)
      have c198 := (SG.fr (B := B) c190 s195 (fun kq e => .inr (by cases e; exact lo8)))
      refine h10 _ _ ?_
      refine wp_ret ?_
      try simp only [Exit.then]
      refine retC rfl rfl (by kernel_rfl) (by kernel_rfl) x194 ?_
      exact ⟨_, _, _, _, (ps17 ++ [(Pp.mk x139 1 2 1)]), rfl, ⟨ho196, ⟨by omega, by omega⟩, by rw [snoc_len]; omega, sm_snoc hsm19.2.2 (sm_mk (by omega))⟩, Cur.mono x145 (by omega), c198⟩
    · refine F.q (v := .bool false) (hr := (r_eql (m := x72) (n := 1) rfl (ev_any (by kernel_rfl)) (ev_any (by kernel_rfl)) (decide_eq_false q123))) (h := ?_)
      refine F.as (v := .bool false) (h := ?_)
      refine F.endF [(0, .pointer (some ⟨B, 0, none⟩)), (2, .pointer (some ⟨b2, 0, none⟩)), (3, .pointer (some ⟨b33, 0, none⟩)), (4, .pointer (some ⟨b52, 0, none⟩)), (10, .int .i64 x72), (11, .bool false), (17, .bool false)] (fun U199 => ?_)
      refine h8 _ _ ?_
      refine wp_cond_false (by kernel_rfl) ?_
      refine wp_seq_k (fun K11 h11 => ?_)
      refine W.region_quiet [(0, false), (1, false)] (by kernel_rfl) ?_
      by_cases q200 : (x72 : Int) = (2 : Int)
      · refine F.q (v := .bool true) (hr := (r_eql (m := x72) (n := 2) rfl (ev_any (by kernel_rfl)) (ev_any (by kernel_rfl)) (decide_eq_true q200))) (h := ?_)
        refine F.as (v := .bool true) (h := ?_)
        refine F.endF [(0, .pointer (some ⟨B, 0, none⟩)), (2, .pointer (some ⟨b2, 0, none⟩)), (3, .pointer (some ⟨b33, 0, none⟩)), (4, .pointer (some ⟨b52, 0, none⟩)), (10, .int .i64 x72), (11, .bool false), (17, .bool false), (29, .bool true)] (fun U201 => ?_)
        refine h11 _ _ ?_
        refine wp_cond_true (by kernel_rfl) ?_
        refine wp_seq_k (fun K12 h12 => ?_)
        refine M.region_plain (row := [(some B), (some b52)]) [(0, false), (1, true), (2, true), (3, false), (4, true)] (by kernel_rfl) ?_
        have s202 := SM.self w75 [(some B), (some b52)]
        refine F.mv (v := .pointer (some ⟨B, 0, none⟩)) (h := ?_)
        refine M.sn (fun b => .slice (some ⟨b, 0, none⟩) 2 2) #[.int .i64 0, .int .i64 10] 3 s202 rfl (by kernel_rfl) rfl (fun _ => by kernel_rfl) (fun b203 w204 hb205 k206 x207 s208 => ?_)
        refine F.nx ?_
        have lo209 : w.heap.size ≤ b203 := Nat.le_trans ((SM.fr (B := B) c81 s202 (in2 (fun kq e => .inl (by cases e; rfl)) (fun kq e => .inr (by cases e; exact lo58))))).size (Nat.le_of_eq hb205)
        have ne210 : B ≠ b203 := Nat.ne_of_lt (Nat.lt_of_lt_of_eq (Cur.lt x77) hb205)
        have ne211 : b2 ≠ b203 := Nat.ne_of_lt (Nat.lt_of_lt_of_eq (Nat.lt_of_lt_of_le (blk_lt x6) (s202).size) hb205)
        have ne212 : b33 ≠ b203 := Nat.ne_of_lt (Nat.lt_of_lt_of_eq (Nat.lt_of_lt_of_le (blk_lt x46) (s202).size) hb205)
        have ne213 : b52 ≠ b203 := Nat.ne_of_lt (Nat.lt_of_lt_of_eq (blk_lt x66) hb205)
        have nb214 : Nb b203 (.slice A14 n15 c16) := nb_hi ho79 (Nat.le_of_eq hb205)
        have x77 := Cur.below x77 k206
        have x66 := (k206.block _ (blk_lt x66)).trans x66
        have ho215 := own_kept ho79 k206
        refine W.sc (vs := [.pointer (some ⟨B, 0, none⟩), .slice (some ⟨b203, 0, none⟩) 2 2]) rfl rfl (by kernel_rfl) (by kernel_rfl) (by kernel_rfl) rfl (among_any B N ((k + 300) + 2) (some ⟨b203, 0, none⟩) 2 2 [0, 10] _ x77 (by omega) (rd_blk x207 rfl rfl) (sp_ne (by have := ne210; omega)) (by omega)) ?_
        rintro e w220 ⟨x216, rfl, hx217, x222, g221⟩
        have s223 := SM.of_grown s208 g221 (.inl (by simp))
        refine ⟨_, rfl, s223, ?_⟩
        refine F.nx ?_
        have x66 := (g221.block _ (blk_lt x66) (fun e9 => ne59 (Option.some.inj e9).symm)).trans x66
        have x207 := (g221.block _ (blk_lt x207) (fun e9 => ne210 (Option.some.inj e9).symm)).trans x207
        have ho224 := own_grown ho215 g221 (fun j e1 e2 => by cases e2; exact nb31 e1.symm)
        have hb218 := bnd_of (0) 10 hx217 (by decide)
        refine F.q (v := .pointer (some ⟨b52, 3, none⟩)) (hr := (r_field (k := 3) rfl (ev_any (by kernel_rfl)) (by kernel_rfl))) (h := ?_)
        refine M.ss (v := .int .i64 x216) (j := 3) (news := [.int .i64 x216]) (cs' := #[.int .i64 99, .int .i64 1, .int .i64 2, .int .i64 x216]) s223 rfl (by kernel_rfl) rfl rfl (by kernel_rfl) (by kernel_rfl) x66 (by kernel_rfl) (by kernel_rfl) (by simp) (by kernel_rfl) (by kernel_rfl) (.inl (by simp)) (fun w225 g226 x227 s228 => ?_)
        have x222 := Cur.grown x222 g226 (fun e9 => ne59 (Option.some.inj e9)) (fun j e => by cases e; exact Nat.le_trans hN lo58)
        have x207 := (g226.block _ (blk_lt x207) (fun e9 => ne213 (Option.some.inj e9).symm)).trans x207
        have ho229 := own_grown ho224 g226 (fun j e1 e2 => by cases e2; exact nb62 e1.symm)
        refine F.endF [(0, .pointer (some ⟨B, 0, none⟩)), (2, .pointer (some ⟨b2, 0, none⟩)), (3, .pointer (some ⟨b33, 0, none⟩)), (4, .pointer (some ⟨b52, 0, none⟩)), (10, .int .i64 x72), (11, .bool false), (17, .bool false), (29, .bool true)] (fun U230 => ?_)
        have x6 := SM.blk s228 x6 (ne2 (fun e9 => ne9 (Option.some.inj e9).symm) (fun e9 => ne60 (Option.some.inj e9)))
        have x46 := SM.blk s228 x46 (ne2 (fun e9 => ne40 (Option.some.inj e9).symm) (fun e9 => ne61 (Option.some.inj e9)))
        have c231 := (SM.fr (B := B) c81 s228 (in2 (fun kq e => .inl (by cases e; rfl)) (fun kq e => .inr (by cases e; exact lo58))))
        refine h12 _ _ ?_
        refine M.region_plain (row := [(Value.ownBlock (.slice A14 n15 c16)), (some b33)]) [(0, false), (1, true), (2, false), (3, true), (4, true), (5, false), (6, true)] (by kernel_rfl) ?_
        have s232 := SM.self w225 [(Value.ownBlock (.slice A14 n15 c16)), (some b33)]
        refine F.q (v := .pointer (some ⟨b33, 1, none⟩)) (hr := (r_field (k := 1) rfl (ev_any (by kernel_rfl)) (by kernel_rfl))) (h := ?_)
        refine W.slq (v := .slice A14 n15 c16) s232 rfl (r_load rfl (by kernel_rfl) (by kernel_rfl) (eqS (blk_cell (j := 1) x46 (by kernel_rfl)))) (by kernel_rfl) rfl ?_
        refine F.nx ?_
        refine F.q (v := .agg #[.int .i64 99, .int .i64 1, .int .i64 2, .int .i64 x216]) (hr := (r_load4 rfl (ev_any (by kernel_rfl)) (by kernel_rfl) (by kernel_rfl) (smS (blk_cell (j := 0) x227 (by kernel_rfl)) (ne2 nb62 (fun e9 => ne61 (Option.some.inj e9).symm))) (smS (blk_cell (j := 1) x227 (by kernel_rfl)) (ne2 nb62 (fun e9 => ne61 (Option.some.inj e9).symm))) (smS (blk_cell (j := 2) x227 (by kernel_rfl)) (ne2 nb62 (fun e9 => ne61 (Option.some.inj e9).symm))) (smS (blk_cell (j := 3) x227 (by kernel_rfl)) (ne2 nb62 (fun e9 => ne61 (Option.some.inj e9).symm))))) (h := ?_)
        refine M.sn (fun b => .slice (some ⟨b, 0, none⟩) 1 1) #[.int .i64 99, .int .i64 1, .int .i64 2, .int .i64 x216] 51 s232 rfl (by kernel_rfl) rfl (fun _ => by kernel_rfl) (fun b233 w234 hb235 k236 x237 s238 => ?_)
        refine F.nx ?_
        have lo239 : w.heap.size ≤ b233 := Nat.le_trans ((SM.fr (B := B) c231 s232 (in2 (fun kq e => .inr (World.ownsRow.lt ho229 kq e).1) (fun kq e => .inr (by cases e; exact lo39))))).size (Nat.le_of_eq hb235)
        have ne240 : B ≠ b233 := Nat.ne_of_lt (Nat.lt_of_lt_of_eq (Nat.lt_of_lt_of_le (Cur.lt x222) (s232).size) hb235)
        have ne241 : b2 ≠ b233 := Nat.ne_of_lt (Nat.lt_of_lt_of_eq (Nat.lt_of_lt_of_le (blk_lt x6) (s232).size) hb235)
        have ne242 : b33 ≠ b233 := Nat.ne_of_lt (Nat.lt_of_lt_of_eq (blk_lt x46) hb235)
        have ne243 : b52 ≠ b233 := Nat.ne_of_lt (Nat.lt_of_lt_of_eq (Nat.lt_of_lt_of_le (blk_lt x227) (s232).size) hb235)
        have ne244 : b203 ≠ b233 := Nat.ne_of_lt (Nat.lt_of_lt_of_eq (Nat.lt_of_lt_of_le (blk_lt x207) (s232).size) hb235)
        have nb245 : Nb b233 (.slice A14 n15 c16) := nb_hi ho229 (Nat.le_of_eq hb235)
        have x46 := (k236.block _ (blk_lt x46)).trans x46
        have ho246 := own_kept ho229 k236
        refine M.sap (e := 51) (size := 4) (base := w.heap.size) (m := 1) (v := .slice A14 n15 c16) (c := 1) s238 rfl rfl rfl rfl (by kernel_rfl) (by kernel_rfl) (by kernel_rfl) ho246 x237 (by kernel_rfl) (by kernel_rfl) (by omega) (by omega) (by have := ((SM.fr (B := B) c231 s238 (in2 (fun kq e => .inr (World.ownsRow.lt ho229 kq e).1) (fun kq e => .inr (by cases e; exact lo39))))).size; omega) (.inl (by simp)) (fun g247 cap248 w249 ho250 hg251 hat252 hlt253 s254 => ?_)
        refine F.nx ?_
        have nb255 : Nb B (.slice (some ⟨g247, 0, none⟩) (n15 + 1) cap248) := nb_app nb31 (Nat.lt_of_lt_of_le (Cur.lt x222) (s238).size) hat252
        have nb256 : Nb b2 (.slice (some ⟨g247, 0, none⟩) (n15 + 1) cap248) := nb_app nb32 (Nat.lt_of_lt_of_le (blk_lt x6) (s238).size) hat252
        have nb257 : Nb b33 (.slice (some ⟨g247, 0, none⟩) (n15 + 1) cap248) := nb_app nb42 (blk_lt x46) hat252
        have x46 := (hg251.block _ (blk_lt x46) nb42).trans x46
        have nb258 : Nb b52 (.slice (some ⟨g247, 0, none⟩) (n15 + 1) cap248) := nb_app nb62 (Nat.lt_of_lt_of_le (blk_lt x227) (s238).size) hat252
        have nb259 : Nb b203 (.slice (some ⟨g247, 0, none⟩) (n15 + 1) cap248) := nb_app nb214 (Nat.lt_of_lt_of_le (blk_lt x207) (s238).size) hat252
        have nb260 : Nb b233 (.slice (some ⟨g247, 0, none⟩) (n15 + 1) cap248) := nb_app nb245 (blk_lt x237) hat252
        have x237 := (hg251.block _ (blk_lt x237) nb245).trans x237
        have ho250 := own_snocP (x := (Pp.mk 99 1 2 x216)) ho250
        refine F.q (v := .pointer (some ⟨b33, 1, none⟩)) (hr := (r_field (k := 1) rfl (ev_any (by kernel_rfl)) (by kernel_rfl))) (h := ?_)
        refine M.ss (v := .slice (some ⟨g247, 0, none⟩) (n15 + 1) cap248) (j := 1) (news := [.slice (some ⟨g247, 0, none⟩) (n15 + 1) cap248]) (cs' := #[.int .i64 m13, .slice (some ⟨g247, 0, none⟩) (n15 + 1) cap248]) s254 rfl (by kernel_rfl) rfl rfl (by kernel_rfl) (by kernel_rfl) x46 (by kernel_rfl) (by kernel_rfl) (by simp) (by kernel_rfl) (by kernel_rfl) (.inl (by simp)) (fun w261 g262 x263 s264 => ?_)
        have x237 := (g262.block _ (blk_lt x237) (fun e9 => ne242 (Option.some.inj e9).symm)).trans x237
        have ho265 := own_grown ho250 g262 (fun j e1 e2 => by cases e2; exact nb257 e1.symm)
        refine F.endF [(0, .pointer (some ⟨B, 0, none⟩)), (2, .pointer (some ⟨b2, 0, none⟩)), (3, .pointer (some ⟨b33, 0, none⟩)), (4, .pointer (some ⟨b52, 0, none⟩)), (10, .int .i64 x72), (11, .bool false), (17, .bool false), (29, .bool true)] (fun U266 => ?_)
        have x222 := Cur.sm x222 s264 (ne2 nb31 (fun e9 => ne40 (Option.some.inj e9))) (in2 (fun j e => Nat.le_trans hN (World.ownsRow.lt ho229 j e).1) (fun j e => by cases e; exact Nat.le_trans hN lo39))
        have x6 := SM.blk s264 x6 (ne2 nb32 (fun e9 => ne41 (Option.some.inj e9)))
        have x227 := SM.blk s264 x227 (ne2 nb62 (fun e9 => ne61 (Option.some.inj e9).symm))
        have x207 := SM.blk s264 x207 (ne2 nb214 (fun e9 => ne212 (Option.some.inj e9).symm))
        have c267 := (SM.fr (B := B) c231 s264 (in2 (fun kq e => .inr (World.ownsRow.lt ho229 kq e).1) (fun kq e => .inr (by cases e; exact lo39))))
        refine h4 _ _ ?_
        refine wp_seq_k (fun K13 h13 => ?_)
        refine W.region_plain (row := (some b2)) [(0, false), (1, true)] (by kernel_rfl) ?_
        have s268 := SG.self w261 (some b2)
        refine F.q (v := .agg #[.int .i64 m13, .slice (some ⟨g247, 0, none⟩) (n15 + 1) cap248]) (hr := (r_load2 rfl (ev_any (by kernel_rfl)) (by kernel_rfl) (by kernel_rfl) (sgS (blk_cell (j := 0) x263 (by kernel_rfl)) (fun e9 => ne41 (Option.some.inj e9).symm)) (sgS (blk_cell (j := 1) x263 (by kernel_rfl)) (fun e9 => ne41 (Option.some.inj e9).symm)))) (h := ?_)
        refine W.ss (v := .agg #[.int .i64 m13, .slice (some ⟨g247, 0, none⟩) (n15 + 1) cap248]) (j := 0) (news := [.int .i64 m13, .slice (some ⟨g247, 0, none⟩) (n15 + 1) cap248]) (cs' := #[.int .i64 m13, .slice (some ⟨g247, 0, none⟩) (n15 + 1) cap248]) s268 rfl (by kernel_rfl) rfl rfl (by kernel_rfl) (by kernel_rfl) x6 (by kernel_rfl) (by kernel_rfl) (by simp) (by kernel_rfl) (by kernel_rfl) (.inl rfl) (fun w269 g270 x271 s272 => ?_)
        have ho273 := own_grown ho265 g270 (fun j e1 e2 => by cases e2; exact nb256 e1.symm)
        refine F.endF [(0, .pointer (some ⟨B, 0, none⟩)), (2, .pointer (some ⟨b2, 0, none⟩)), (3, .pointer (some ⟨b33, 0, none⟩)), (4, .pointer (some ⟨b52, 0, none⟩)), (10, .int .i64 x72), (11, .bool false), (17, .bool false), (29, .bool true)] (fun U274 => ?_)
        have x222 := Cur.grown x222 s272 (fun e9 => ne9 (Option.some.inj e9)) (fun j e => by cases e; exact Nat.le_trans hN lo8)
        have x263 := SG.blk s272 x263 (fun e9 => ne41 (Option.some.inj e9).symm)
        have x227 := SG.blk s272 x227 (fun e9 => ne60 (Option.some.inj e9).symm)
        have x207 := SG.blk s272 x207 (fun e9 => ne211 (Option.some.inj e9).symm)
        have x237 := SG.blk s272 x237 (fun e9 => ne241 (Option.some.inj e9).symm)
        have c275 := (SG.fr (B := B) c267 s272 (fun kq e => .inr (by cases e; exact lo8)))
        refine h13 _ _ ?_
        refine wp_ret ?_
        try simp only [Exit.then]
        refine retC rfl rfl (by kernel_rfl) (by kernel_rfl) x271 ?_
        exact ⟨_, _, _, _, (ps17 ++ [(Pp.mk 99 1 2 x216)]), rfl, ⟨ho273, ⟨by omega, by omega⟩, by rw [snoc_len]; omega, sm_snoc hsm19.2.2 (sm_mk (by omega))⟩, Cur.mono x222 (by omega), c275⟩
      · refine F.q (v := .bool false) (hr := (r_eql (m := x72) (n := 2) rfl (ev_any (by kernel_rfl)) (ev_any (by kernel_rfl)) (decide_eq_false q200))) (h := ?_)
        refine F.as (v := .bool false) (h := ?_)
        refine F.endF [(0, .pointer (some ⟨B, 0, none⟩)), (2, .pointer (some ⟨b2, 0, none⟩)), (3, .pointer (some ⟨b33, 0, none⟩)), (4, .pointer (some ⟨b52, 0, none⟩)), (10, .int .i64 x72), (11, .bool false), (17, .bool false), (29, .bool false)] (fun U276 => ?_)
        refine h11 _ _ ?_
        refine wp_cond_false (by kernel_rfl) ?_
        refine wp_seq_k (fun K14 h14 => ?_)
        refine W.region_quiet [(0, false), (1, false)] (by kernel_rfl) ?_
        by_cases q277 : (x72 : Int) = (3 : Int)
        · refine F.q (v := .bool true) (hr := (r_eql (m := x72) (n := 3) rfl (ev_any (by kernel_rfl)) (ev_any (by kernel_rfl)) (decide_eq_true q277))) (h := ?_)
          refine F.as (v := .bool true) (h := ?_)
          refine F.endF [(0, .pointer (some ⟨B, 0, none⟩)), (2, .pointer (some ⟨b2, 0, none⟩)), (3, .pointer (some ⟨b33, 0, none⟩)), (4, .pointer (some ⟨b52, 0, none⟩)), (10, .int .i64 x72), (11, .bool false), (17, .bool false), (29, .bool false), (41, .bool true)] (fun U278 => ?_)
          refine h14 _ _ ?_
          refine wp_cond_true (by kernel_rfl) ?_
          refine wp_seq_k (fun K15 h15 => ?_)
          refine M.region_plain (row := [(some B), (some b52)]) [(0, false), (1, true), (2, true), (3, false), (4, true)] (by kernel_rfl) ?_
          have s279 := SM.self w75 [(some B), (some b52)]
          refine F.mv (v := .pointer (some ⟨B, 0, none⟩)) (h := ?_)
          refine M.sn (fun b => .slice (some ⟨b, 0, none⟩) 3 3) #[.int .i64 1, .int .i64 9, .int .i64 0] 3 s279 rfl (by kernel_rfl) rfl (fun _ => by kernel_rfl) (fun b280 w281 hb282 k283 x284 s285 => ?_)
          refine F.nx ?_
          have lo286 : w.heap.size ≤ b280 := Nat.le_trans ((SM.fr (B := B) c81 s279 (in2 (fun kq e => .inl (by cases e; rfl)) (fun kq e => .inr (by cases e; exact lo58))))).size (Nat.le_of_eq hb282)
          have ne287 : B ≠ b280 := Nat.ne_of_lt (Nat.lt_of_lt_of_eq (Cur.lt x77) hb282)
          have ne288 : b2 ≠ b280 := Nat.ne_of_lt (Nat.lt_of_lt_of_eq (Nat.lt_of_lt_of_le (blk_lt x6) (s279).size) hb282)
          have ne289 : b33 ≠ b280 := Nat.ne_of_lt (Nat.lt_of_lt_of_eq (Nat.lt_of_lt_of_le (blk_lt x46) (s279).size) hb282)
          have ne290 : b52 ≠ b280 := Nat.ne_of_lt (Nat.lt_of_lt_of_eq (blk_lt x66) hb282)
          have nb291 : Nb b280 (.slice A14 n15 c16) := nb_hi ho79 (Nat.le_of_eq hb282)
          have x77 := Cur.below x77 k283
          have x66 := (k283.block _ (blk_lt x66)).trans x66
          have ho292 := own_kept ho79 k283
          refine W.sc (vs := [.pointer (some ⟨B, 0, none⟩), .slice (some ⟨b280, 0, none⟩) 3 3]) rfl rfl (by kernel_rfl) (by kernel_rfl) (by kernel_rfl) rfl (among_any B N ((k + 300) + 2) (some ⟨b280, 0, none⟩) 3 3 [1, 9, 0] _ x77 (by omega) (rd_blk x284 rfl rfl) (sp_ne (by have := ne287; omega)) (by omega)) ?_
          rintro e w297 ⟨x293, rfl, hx294, x299, g298⟩
          have s300 := SM.of_grown s285 g298 (.inl (by simp))
          refine ⟨_, rfl, s300, ?_⟩
          refine F.nx ?_
          have x66 := (g298.block _ (blk_lt x66) (fun e9 => ne59 (Option.some.inj e9).symm)).trans x66
          have x284 := (g298.block _ (blk_lt x284) (fun e9 => ne287 (Option.some.inj e9).symm)).trans x284
          have ho301 := own_grown ho292 g298 (fun j e1 e2 => by cases e2; exact nb31 e1.symm)
          have hb295 := bnd_of (0) 9 hx294 (by decide)
          refine F.q (v := .pointer (some ⟨b52, 2, none⟩)) (hr := (r_field (k := 2) rfl (ev_any (by kernel_rfl)) (by kernel_rfl))) (h := ?_)
          refine M.ss (v := .int .i64 x293) (j := 2) (news := [.int .i64 x293]) (cs' := #[.int .i64 99, .int .i64 1, .int .i64 x293, .int .i64 1]) s300 rfl (by kernel_rfl) rfl rfl (by kernel_rfl) (by kernel_rfl) x66 (by kernel_rfl) (by kernel_rfl) (by simp) (by kernel_rfl) (by kernel_rfl) (.inl (by simp)) (fun w302 g303 x304 s305 => ?_)
          have x299 := Cur.grown x299 g303 (fun e9 => ne59 (Option.some.inj e9)) (fun j e => by cases e; exact Nat.le_trans hN lo58)
          have x284 := (g303.block _ (blk_lt x284) (fun e9 => ne290 (Option.some.inj e9).symm)).trans x284
          have ho306 := own_grown ho301 g303 (fun j e1 e2 => by cases e2; exact nb62 e1.symm)
          refine F.endF [(0, .pointer (some ⟨B, 0, none⟩)), (2, .pointer (some ⟨b2, 0, none⟩)), (3, .pointer (some ⟨b33, 0, none⟩)), (4, .pointer (some ⟨b52, 0, none⟩)), (10, .int .i64 x72), (11, .bool false), (17, .bool false), (29, .bool false), (41, .bool true)] (fun U307 => ?_)
          have x6 := SM.blk s305 x6 (ne2 (fun e9 => ne9 (Option.some.inj e9).symm) (fun e9 => ne60 (Option.some.inj e9)))
          have x46 := SM.blk s305 x46 (ne2 (fun e9 => ne40 (Option.some.inj e9).symm) (fun e9 => ne61 (Option.some.inj e9)))
          have c308 := (SM.fr (B := B) c81 s305 (in2 (fun kq e => .inl (by cases e; rfl)) (fun kq e => .inr (by cases e; exact lo58))))
          refine h15 _ _ ?_
          refine M.region_plain (row := [(Value.ownBlock (.slice A14 n15 c16)), (some b33)]) [(0, false), (1, true), (2, false), (3, true), (4, true), (5, false), (6, true)] (by kernel_rfl) ?_
          have s309 := SM.self w302 [(Value.ownBlock (.slice A14 n15 c16)), (some b33)]
          refine F.q (v := .pointer (some ⟨b33, 1, none⟩)) (hr := (r_field (k := 1) rfl (ev_any (by kernel_rfl)) (by kernel_rfl))) (h := ?_)
          refine W.slq (v := .slice A14 n15 c16) s309 rfl (r_load rfl (by kernel_rfl) (by kernel_rfl) (eqS (blk_cell (j := 1) x46 (by kernel_rfl)))) (by kernel_rfl) rfl ?_
          refine F.nx ?_
          refine F.q (v := .agg #[.int .i64 99, .int .i64 1, .int .i64 x293, .int .i64 1]) (hr := (r_load4 rfl (ev_any (by kernel_rfl)) (by kernel_rfl) (by kernel_rfl) (smS (blk_cell (j := 0) x304 (by kernel_rfl)) (ne2 nb62 (fun e9 => ne61 (Option.some.inj e9).symm))) (smS (blk_cell (j := 1) x304 (by kernel_rfl)) (ne2 nb62 (fun e9 => ne61 (Option.some.inj e9).symm))) (smS (blk_cell (j := 2) x304 (by kernel_rfl)) (ne2 nb62 (fun e9 => ne61 (Option.some.inj e9).symm))) (smS (blk_cell (j := 3) x304 (by kernel_rfl)) (ne2 nb62 (fun e9 => ne61 (Option.some.inj e9).symm))))) (h := ?_)
          refine M.sn (fun b => .slice (some ⟨b, 0, none⟩) 1 1) #[.int .i64 99, .int .i64 1, .int .i64 x293, .int .i64 1] 51 s309 rfl (by kernel_rfl) rfl (fun _ => by kernel_rfl) (fun b310 w311 hb312 k313 x314 s315 => ?_)
          refine F.nx ?_
          have lo316 : w.heap.size ≤ b310 := Nat.le_trans ((SM.fr (B := B) c308 s309 (in2 (fun kq e => .inr (World.ownsRow.lt ho306 kq e).1) (fun kq e => .inr (by cases e; exact lo39))))).size (Nat.le_of_eq hb312)
          have ne317 : B ≠ b310 := Nat.ne_of_lt (Nat.lt_of_lt_of_eq (Nat.lt_of_lt_of_le (Cur.lt x299) (s309).size) hb312)
          have ne318 : b2 ≠ b310 := Nat.ne_of_lt (Nat.lt_of_lt_of_eq (Nat.lt_of_lt_of_le (blk_lt x6) (s309).size) hb312)
          have ne319 : b33 ≠ b310 := Nat.ne_of_lt (Nat.lt_of_lt_of_eq (blk_lt x46) hb312)
          have ne320 : b52 ≠ b310 := Nat.ne_of_lt (Nat.lt_of_lt_of_eq (Nat.lt_of_lt_of_le (blk_lt x304) (s309).size) hb312)
          have ne321 : b280 ≠ b310 := Nat.ne_of_lt (Nat.lt_of_lt_of_eq (Nat.lt_of_lt_of_le (blk_lt x284) (s309).size) hb312)
          have nb322 : Nb b310 (.slice A14 n15 c16) := nb_hi ho306 (Nat.le_of_eq hb312)
          have x46 := (k313.block _ (blk_lt x46)).trans x46
          have ho323 := own_kept ho306 k313
          refine M.sap (e := 51) (size := 4) (base := w.heap.size) (m := 1) (v := .slice A14 n15 c16) (c := 1) s315 rfl rfl rfl rfl (by kernel_rfl) (by kernel_rfl) (by kernel_rfl) ho323 x314 (by kernel_rfl) (by kernel_rfl) (by omega) (by omega) (by have := ((SM.fr (B := B) c308 s315 (in2 (fun kq e => .inr (World.ownsRow.lt ho306 kq e).1) (fun kq e => .inr (by cases e; exact lo39))))).size; omega) (.inl (by simp)) (fun g324 cap325 w326 ho327 hg328 hat329 hlt330 s331 => ?_)
          refine F.nx ?_
          have nb332 : Nb B (.slice (some ⟨g324, 0, none⟩) (n15 + 1) cap325) := nb_app nb31 (Nat.lt_of_lt_of_le (Cur.lt x299) (s315).size) hat329
          have nb333 : Nb b2 (.slice (some ⟨g324, 0, none⟩) (n15 + 1) cap325) := nb_app nb32 (Nat.lt_of_lt_of_le (blk_lt x6) (s315).size) hat329
          have nb334 : Nb b33 (.slice (some ⟨g324, 0, none⟩) (n15 + 1) cap325) := nb_app nb42 (blk_lt x46) hat329
          have x46 := (hg328.block _ (blk_lt x46) nb42).trans x46
          have nb335 : Nb b52 (.slice (some ⟨g324, 0, none⟩) (n15 + 1) cap325) := nb_app nb62 (Nat.lt_of_lt_of_le (blk_lt x304) (s315).size) hat329
          have nb336 : Nb b280 (.slice (some ⟨g324, 0, none⟩) (n15 + 1) cap325) := nb_app nb291 (Nat.lt_of_lt_of_le (blk_lt x284) (s315).size) hat329
          have nb337 : Nb b310 (.slice (some ⟨g324, 0, none⟩) (n15 + 1) cap325) := nb_app nb322 (blk_lt x314) hat329
          have x314 := (hg328.block _ (blk_lt x314) nb322).trans x314
          have ho327 := own_snocP (x := (Pp.mk 99 1 x293 1)) ho327
          refine F.q (v := .pointer (some ⟨b33, 1, none⟩)) (hr := (r_field (k := 1) rfl (ev_any (by kernel_rfl)) (by kernel_rfl))) (h := ?_)
          refine M.ss (v := .slice (some ⟨g324, 0, none⟩) (n15 + 1) cap325) (j := 1) (news := [.slice (some ⟨g324, 0, none⟩) (n15 + 1) cap325]) (cs' := #[.int .i64 m13, .slice (some ⟨g324, 0, none⟩) (n15 + 1) cap325]) s331 rfl (by kernel_rfl) rfl rfl (by kernel_rfl) (by kernel_rfl) x46 (by kernel_rfl) (by kernel_rfl) (by simp) (by kernel_rfl) (by kernel_rfl) (.inl (by simp)) (fun w338 g339 x340 s341 => ?_)
          have x314 := (g339.block _ (blk_lt x314) (fun e9 => ne319 (Option.some.inj e9).symm)).trans x314
          have ho342 := own_grown ho327 g339 (fun j e1 e2 => by cases e2; exact nb334 e1.symm)
          refine F.endF [(0, .pointer (some ⟨B, 0, none⟩)), (2, .pointer (some ⟨b2, 0, none⟩)), (3, .pointer (some ⟨b33, 0, none⟩)), (4, .pointer (some ⟨b52, 0, none⟩)), (10, .int .i64 x72), (11, .bool false), (17, .bool false), (29, .bool false), (41, .bool true)] (fun U343 => ?_)
          have x299 := Cur.sm x299 s341 (ne2 nb31 (fun e9 => ne40 (Option.some.inj e9))) (in2 (fun j e => Nat.le_trans hN (World.ownsRow.lt ho306 j e).1) (fun j e => by cases e; exact Nat.le_trans hN lo39))
          have x6 := SM.blk s341 x6 (ne2 nb32 (fun e9 => ne41 (Option.some.inj e9)))
          have x304 := SM.blk s341 x304 (ne2 nb62 (fun e9 => ne61 (Option.some.inj e9).symm))
          have x284 := SM.blk s341 x284 (ne2 nb291 (fun e9 => ne289 (Option.some.inj e9).symm))
          have c344 := (SM.fr (B := B) c308 s341 (in2 (fun kq e => .inr (World.ownsRow.lt ho306 kq e).1) (fun kq e => .inr (by cases e; exact lo39))))
          refine h4 _ _ ?_
          refine wp_seq_k (fun K16 h16 => ?_)
          refine W.region_plain (row := (some b2)) [(0, false), (1, true)] (by kernel_rfl) ?_
          have s345 := SG.self w338 (some b2)
          refine F.q (v := .agg #[.int .i64 m13, .slice (some ⟨g324, 0, none⟩) (n15 + 1) cap325]) (hr := (r_load2 rfl (ev_any (by kernel_rfl)) (by kernel_rfl) (by kernel_rfl) (sgS (blk_cell (j := 0) x340 (by kernel_rfl)) (fun e9 => ne41 (Option.some.inj e9).symm)) (sgS (blk_cell (j := 1) x340 (by kernel_rfl)) (fun e9 => ne41 (Option.some.inj e9).symm)))) (h := ?_)
          refine W.ss (v := .agg #[.int .i64 m13, .slice (some ⟨g324, 0, none⟩) (n15 + 1) cap325]) (j := 0) (news := [.int .i64 m13, .slice (some ⟨g324, 0, none⟩) (n15 + 1) cap325]) (cs' := #[.int .i64 m13, .slice (some ⟨g324, 0, none⟩) (n15 + 1) cap325]) s345 rfl (by kernel_rfl) rfl rfl (by kernel_rfl) (by kernel_rfl) x6 (by kernel_rfl) (by kernel_rfl) (by simp) (by kernel_rfl) (by kernel_rfl) (.inl rfl) (fun w346 g347 x348 s349 => ?_)
          have ho350 := own_grown ho342 g347 (fun j e1 e2 => by cases e2; exact nb333 e1.symm)
          refine F.endF [(0, .pointer (some ⟨B, 0, none⟩)), (2, .pointer (some ⟨b2, 0, none⟩)), (3, .pointer (some ⟨b33, 0, none⟩)), (4, .pointer (some ⟨b52, 0, none⟩)), (10, .int .i64 x72), (11, .bool false), (17, .bool false), (29, .bool false), (41, .bool true)] (fun U351 => ?_)
          have x299 := Cur.grown x299 s349 (fun e9 => ne9 (Option.some.inj e9)) (fun j e => by cases e; exact Nat.le_trans hN lo8)
          have x340 := SG.blk s349 x340 (fun e9 => ne41 (Option.some.inj e9).symm)
          have x304 := SG.blk s349 x304 (fun e9 => ne60 (Option.some.inj e9).symm)
          have x284 := SG.blk s349 x284 (fun e9 => ne288 (Option.some.inj e9).symm)
          have x314 := SG.blk s349 x314 (fun e9 => ne318 (Option.some.inj e9).symm)
          have c352 := (SG.fr (B := B) c344 s349 (fun kq e => .inr (by cases e; exact lo8)))
          refine h16 _ _ ?_
          refine wp_ret ?_
          try simp only [Exit.then]
          refine retC rfl rfl (by kernel_rfl) (by kernel_rfl) x348 ?_
          exact ⟨_, _, _, _, (ps17 ++ [(Pp.mk 99 1 x293 1)]), rfl, ⟨ho350, ⟨by omega, by omega⟩, by rw [snoc_len]; omega, sm_snoc hsm19.2.2 (sm_mk (by omega))⟩, Cur.mono x299 (by omega), c352⟩
        · refine F.q (v := .bool false) (hr := (r_eql (m := x72) (n := 3) rfl (ev_any (by kernel_rfl)) (ev_any (by kernel_rfl)) (decide_eq_false q277))) (h := ?_)
          refine F.as (v := .bool false) (h := ?_)
          refine F.endF [(0, .pointer (some ⟨B, 0, none⟩)), (2, .pointer (some ⟨b2, 0, none⟩)), (3, .pointer (some ⟨b33, 0, none⟩)), (4, .pointer (some ⟨b52, 0, none⟩)), (10, .int .i64 x72), (11, .bool false), (17, .bool false), (29, .bool false), (41, .bool false)] (fun U353 => ?_)
          refine h14 _ _ ?_
          refine wp_cond_false (by kernel_rfl) ?_
          refine wp_seq_k (fun K17 h17 => ?_)
          refine W.region_quiet [(0, false), (1, false)] (by kernel_rfl) ?_
          by_cases q354 : (x72 : Int) = (4 : Int)
          · refine F.q (v := .bool true) (hr := (r_eql (m := x72) (n := 4) rfl (ev_any (by kernel_rfl)) (ev_any (by kernel_rfl)) (decide_eq_true q354))) (h := ?_)
            refine F.as (v := .bool true) (h := ?_)
            refine F.endF [(0, .pointer (some ⟨B, 0, none⟩)), (2, .pointer (some ⟨b2, 0, none⟩)), (3, .pointer (some ⟨b33, 0, none⟩)), (4, .pointer (some ⟨b52, 0, none⟩)), (10, .int .i64 x72), (11, .bool false), (17, .bool false), (29, .bool false), (41, .bool false), (53, .bool true)] (fun U355 => ?_)
            refine h17 _ _ ?_
            refine wp_cond_true (by kernel_rfl) ?_
            refine wp_seq_k (fun K18 h18 => ?_)
            refine W.region_quiet [(0, false)] (by kernel_rfl) ?_
            refine F.as (v := .int .i64 0) (h := ?_)
            refine F.endF [(0, .pointer (some ⟨B, 0, none⟩)), (2, .pointer (some ⟨b2, 0, none⟩)), (3, .pointer (some ⟨b33, 0, none⟩)), (4, .pointer (some ⟨b52, 0, none⟩)), (5, .int .i64 0), (10, .int .i64 x72), (11, .bool false), (17, .bool false), (29, .bool false), (41, .bool false), (53, .bool true)] (fun U356 => ?_)
            refine h18 _ _ ?_
            refine wp_block ?_
            refine loopK (fun am0 aa0 wl0 => ∃ (j : Nat) (qs : List Pp) (A0_c3_1 : Option Addr) (n0_c3_1 : Nat) (c0_c3_1 : Nat) (U0 : Nat → Value), aa0 = ⟨(fr U0 [(0, .pointer (some ⟨B, 0, none⟩)), (2, .pointer (some ⟨b2, 0, none⟩)), (3, .pointer (some ⟨b33, 0, none⟩)), (4, .pointer (some ⟨b52, 0, none⟩)), (5, .int .i64 ((j : Nat) : Int)), (10, .int .i64 x72), (11, .bool false), (17, .bool false), (29, .bool false), (41, .bool false), (53, .bool true)] 80 0).toArray, []⟩ ∧ (am0 = 13 - j) ∧ (j ≤ 12) ∧ (∀ p, p ∈ qs → smP p) ∧ (qs.length ≤ ps17.length + j) ∧ (Cur wl0 B N (k + 302 + 2 * j)) ∧ (wl0.heap[b2]? = some (.cells #[.int .i64 0, .slice none 0 0] 31 (0, 0))) ∧ (wl0.heap[b33]? = some (.cells #[.int .i64 m13, .slice A0_c3_1 n0_c3_1 c0_c3_1] 31 (0, 0))) ∧ (wl0.heap[b52]? = some (.cells #[.int .i64 99, .int .i64 1, .int .i64 2, .int .i64 1] 51 (0, 0))) ∧ (wl0.ownsRow w.heap.size 51 4 (.slice A0_c3_1 n0_c3_1 c0_c3_1) n0_c3_1 (pipesV qs)) ∧ (Nb B (.slice A0_c3_1 n0_c3_1 c0_c3_1)) ∧ (Nb b2 (.slice A0_c3_1 n0_c3_1 c0_c3_1)) ∧ (Nb b33 (.slice A0_c3_1 n0_c3_1 c0_c3_1)) ∧ (Nb b52 (.slice A0_c3_1 n0_c3_1 c0_c3_1)) ∧ (w.grownBy wl0 (some B))) (13 - 0) ?_ ?_
            · exact ⟨0, ps17, A14, n15, c16, (fun iU9 => lk [(0, .pointer (some ⟨B, 0, none⟩)), (2, .pointer (some ⟨b2, 0, none⟩)), (3, .pointer (some ⟨b33, 0, none⟩)), (4, .pointer (some ⟨b52, 0, none⟩)), (5, .int .i64 0), (10, .int .i64 x72), (11, .bool false), (17, .bool false), (29, .bool false), (41, .bool false), (53, .bool true)] iU9 (U356 iU9)), (by kernel_rfl), rfl, (by omega), hsm19.2.2, (by omega), (Cur.mono x77 (by omega)), x6, x46, x66, ho79, nb31, nb32, nb42, nb62, c81⟩
            rintro am0 aa0 wl0 K19 h19 ⟨j, qs, A0_c3_1, n0_c3_1, c0_c3_1, U0, rfl, rfl, hj, hps1, hln1, x77, x6, x46, x66, ho0_c3_1, nb0_c3_1_B, nb0_c3_1_b2, nb0_c3_1_b33, nb0_c3_1_b52, c357⟩
            have hl09 := rd_pipes_len (own_rd ho0_c3_1)
            refine wp_seq_k (fun K20 h20 => ?_)
            refine wp_seq_k (fun K21 h21 => ?_)
            refine W.region_sch (row := (some B)) (Sch.of [(0, false), (1, false), (2, false), (3, false), (4, true), (5, false), (6, false), (7, false), (8, false), (9, false), (10, false)]) (by kernel_rfl) (by kernel_rfl) (fun _ d _ _ _ h => by cases d <;> exact h) (by kernel_rfl) (fun w358 e359 s360 => ?_)
            have ho361 := own_heap ho0_c3_1 e359
            have x362 := Cur.heap x77 e359
            refine F.q (v := .pointer (some ⟨b33, 1, none⟩)) (hr := (r_field (k := 1) rfl (ev_any (by kernel_rfl)) (by kernel_rfl))) (h := ?_)
            refine F.ld (v := .slice A0_c3_1 n0_c3_1 c0_c3_1) (hc := (sgS (blk_cell (j := 1) x46 (by kernel_rfl)) (fun e9 => ne40 (Option.some.inj e9).symm))) (h := ?_)
            refine F.q (v := .int .i64 ((n0_c3_1 : Nat) : Int)) (hr := (r_len (A := A0_c3_1) (n := n0_c3_1) (c := c0_c3_1) rfl (ev_any (by kernel_rfl)) (by kernel_rfl))) (h := ?_)
            refine F.mv (v := .pointer (some ⟨B, 0, none⟩)) (h := ?_)
            refine W.sc (vs := [.pointer (some ⟨B, 0, none⟩), .int .i64 2]) rfl rfl (by kernel_rfl) (by kernel_rfl) (by kernel_rfl) rfl (pick_any B N (k + 302 + 2 * j) 2 _ x362 (by omega) (by omega)) ?_
            rintro e w366 ⟨x363, rfl, hx364, x368, g367⟩
            have s369 := SG.of_grown s360 g367 (.inl rfl)
            refine ⟨_, rfl, s369, ?_⟩
            refine F.nx ?_
            have ho370 := own_grown ho361 g367 (fun j e1 e2 => by cases e2; exact nb0_c3_1_B e1.symm)
            refine F.q (v := .int .i64 (10 + x363)) (hr := (r_add (m := 10) (n := x363) (z := 10 + x363) rfl (ev_any (by kernel_rfl)) (ev_any (by kernel_rfl)) (rfl) (by omega))) (h := ?_)
            by_cases q371 : (((n0_c3_1 : Nat) : Int) : Int) < (10 + x363 : Int)
            · refine F.q (v := .bool true) (hr := (r_lss (m := ((n0_c3_1 : Nat) : Int)) (n := 10 + x363) rfl (ev_any (by kernel_rfl)) (ev_any (by kernel_rfl)) (decide_eq_true q371))) (h := ?_)
              refine F.mv (v := .bool true) (h := ?_)
              refine F.mv (v := .int .i64 ((j : Nat) : Int)) (h := ?_)
              by_cases q372 : (((j : Nat) : Int) : Int) < (12 : Int)
              · refine F.q (v := .bool true) (hr := (r_lss (m := ((j : Nat) : Int)) (n := 12) rfl (ev_any (by kernel_rfl)) (ev_any (by kernel_rfl)) (decide_eq_true q372))) (h := ?_)
                refine F.q (v := .bool true) (hr := (r_pick (b := true) rfl (ev_any (by kernel_rfl)) (ev_any (by kernel_rfl)))) (h := ?_)
                refine F.endF [(0, .pointer (some ⟨B, 0, none⟩)), (2, .pointer (some ⟨b2, 0, none⟩)), (3, .pointer (some ⟨b33, 0, none⟩)), (4, .pointer (some ⟨b52, 0, none⟩)), (5, .int .i64 ((j : Nat) : Int)), (10, .int .i64 x72), (11, .bool false), (17, .bool false), (29, .bool false), (41, .bool false), (53, .bool true), (65, .bool true)] (fun U373 => ?_)
                have x6 := SG.blk s369 x6 (fun e9 => ne9 (Option.some.inj e9).symm)
                have x46 := SG.blk s369 x46 (fun e9 => ne40 (Option.some.inj e9).symm)
                have x66 := SG.blk s369 x66 (fun e9 => ne59 (Option.some.inj e9).symm)
                have c374 := (SG.fr (B := B) c357 s369 (fun kq e => .inl (by cases e; rfl)))
                refine h21 _ _ ?_
                refine wp_cond_true (by kernel_rfl) ?_
                refine wp_skip ?_
                refine h20 _ _ ?_
                refine wp_seq_k (fun K22 h22 => ?_)
                refine wp_block ?_
                refine M.region_sch (row := [(Value.ownBlock (.slice A0_c3_1 n0_c3_1 c0_c3_1)), (some b33)]) (Sch.app [(0, false), (2, false), (3, false), (4, false)] (.br 1 5 (Sch.of [(5, true), (6, true), (7, false), (8, true), (9, true), (10, false), (11, true)]) (Sch.app [] (.br 1 6 (Sch.of [(6, true), (7, false), (8, true), (9, true), (10, false), (11, true)]) (Sch.app [(7, false)] (.br 1 8 (Sch.of [(8, true), (9, true), (10, false), (11, true)]) (Sch.of [(1, true), (9, true), (10, false), (11, true)]))))))) (by kernel_rfl) (by kernel_rfl) (fun _ d _ _ _ h => by cases d <;> exact h) (by kernel_rfl) (fun w375 e376 s377 => ?_)
                have ho378 := own_heap ho370 e376
                have x379 := (heap_same e376 x46)
                refine F.q (v := .pointer (some ⟨b33, 1, none⟩)) (hr := (r_field (k := 1) rfl (ev_any (by kernel_rfl)) (by kernel_rfl))) (h := ?_)
                refine F.mv (v := .int .i64 ((j : Nat) : Int)) (h := ?_)
                refine F.q (v := .int .i64 (60 + ((j : Nat) : Int))) (hr := (r_add (m := 60) (n := ((j : Nat) : Int)) (z := 60 + ((j : Nat) : Int)) rfl (ev_any (by kernel_rfl)) (ev_any (by kernel_rfl)) (rfl) (by omega))) (h := ?_)
                refine F.q (v := .pointer (some ⟨b33, 0, none⟩)) (hr := (r_field0 rfl (ev_any (by kernel_rfl)) (by kernel_rfl))) (h := ?_)
                refine W.sbr ?_ ?_
                · refine W.slq (v := .slice A0_c3_1 n0_c3_1 c0_c3_1) s377 rfl (r_load rfl (by kernel_rfl) (by kernel_rfl) (eqS (blk_cell (j := 1) x379 (by kernel_rfl)))) (by kernel_rfl) rfl ?_
                  refine F.nx ?_
                  refine W.slq (v := .int .i64 m13) s377 rfl (r_load rfl (by kernel_rfl) (by kernel_rfl) (eqS (blk_cell (j := 0) x379 (by kernel_rfl)))) (by kernel_rfl) rfl ?_
                  refine F.nx ?_
                  have hmo := mostI_is 2 m13
                  refine W.sc (vs := [.int .i64 2, .int .i64 m13]) rfl rfl (by kernel_rfl) (by kernel_rfl) (by kernel_rfl) rfl (l1Most_any 2 m13 _) ?_
                  rintro e w381 ⟨rfl, b380⟩
                  have s382 := SM.of_below s377 b380
                  refine ⟨_, rfl, s382, ?_⟩
                  refine F.nx ?_
                  have x379 := (b380.block _ (blk_lt x379)).trans x379
                  have ho383 := own_kept ho378 b380
                  refine F.q (v := .agg #[.int .i64 (60 + ((j : Nat) : Int)), .int .i64 1, .int .i64 (mostI 2 m13), .int .i64 2]) (hr := (r_build rfl (vs := [(0, .int .i64 (60 + ((j : Nat) : Int))), (1, .int .i64 1), (2, .int .i64 (mostI 2 m13)), (3, .int .i64 2)]) (by kernel_rfl) (by kernel_rfl))) (h := ?_)
                  refine M.sn (fun b => .slice (some ⟨b, 0, none⟩) 1 1) #[.int .i64 (60 + ((j : Nat) : Int)), .int .i64 1, .int .i64 (mostI 2 m13), .int .i64 2] 51 s382 rfl (by kernel_rfl) rfl (fun _ => by kernel_rfl) (fun b384 w385 hb386 k387 x388 s389 => ?_)
                  refine F.nx ?_
                  have lo390 : w.heap.size ≤ b384 := Nat.le_trans ((SM.fr (B := B) c374 s382 (in2 (fun kq e => .inr (World.ownsRow.lt ho370 kq e).1) (fun kq e => .inr (by cases e; exact lo39))))).size (Nat.le_of_eq hb386)
                  have ne391 : B ≠ b384 := Nat.ne_of_lt (Nat.lt_of_lt_of_eq (Nat.lt_of_lt_of_le (Cur.lt x368) (s382).size) hb386)
                  have ne392 : b2 ≠ b384 := Nat.ne_of_lt (Nat.lt_of_lt_of_eq (Nat.lt_of_lt_of_le (blk_lt x6) (s382).size) hb386)
                  have ne393 : b33 ≠ b384 := Nat.ne_of_lt (Nat.lt_of_lt_of_eq (blk_lt x379) hb386)
                  have ne394 : b52 ≠ b384 := Nat.ne_of_lt (Nat.lt_of_lt_of_eq (Nat.lt_of_lt_of_le (blk_lt x66) (s382).size) hb386)
                  have nb395 : Nb b384 (.slice A0_c3_1 n0_c3_1 c0_c3_1) := nb_hi ho383 (Nat.le_of_eq hb386)
                  have x379 := (k387.block _ (blk_lt x379)).trans x379
                  have ho396 := own_kept ho383 k387
                  refine M.sap (e := 51) (size := 4) (base := w.heap.size) (m := 1) (v := .slice A0_c3_1 n0_c3_1 c0_c3_1) (c := 1) s389 rfl rfl rfl rfl (by kernel_rfl) (by kernel_rfl) (by kernel_rfl) ho396 x388 (by kernel_rfl) (by kernel_rfl) (by omega) (by omega) (by have := ((SM.fr (B := B) c374 s389 (in2 (fun kq e => .inr (World.ownsRow.lt ho370 kq e).1) (fun kq e => .inr (by cases e; exact lo39))))).size; omega) (.inl (by simp)) (fun g397 cap398 w399 ho400 hg401 hat402 hlt403 s404 => ?_)
                  refine F.nx ?_
                  have nb405 : Nb B (.slice (some ⟨g397, 0, none⟩) (n0_c3_1 + 1) cap398) := nb_app nb0_c3_1_B (Nat.lt_of_lt_of_le (Cur.lt x368) (s389).size) hat402
                  have nb406 : Nb b2 (.slice (some ⟨g397, 0, none⟩) (n0_c3_1 + 1) cap398) := nb_app nb0_c3_1_b2 (Nat.lt_of_lt_of_le (blk_lt x6) (s389).size) hat402
                  have nb407 : Nb b33 (.slice (some ⟨g397, 0, none⟩) (n0_c3_1 + 1) cap398) := nb_app nb0_c3_1_b33 (blk_lt x379) hat402
                  have x379 := (hg401.block _ (blk_lt x379) nb0_c3_1_b33).trans x379
                  have nb408 : Nb b52 (.slice (some ⟨g397, 0, none⟩) (n0_c3_1 + 1) cap398) := nb_app nb0_c3_1_b52 (Nat.lt_of_lt_of_le (blk_lt x66) (s389).size) hat402
                  have nb409 : Nb b384 (.slice (some ⟨g397, 0, none⟩) (n0_c3_1 + 1) cap398) := nb_app nb395 (blk_lt x388) hat402
                  have x388 := (hg401.block _ (blk_lt x388) nb395).trans x388
                  have ho400 := own_snocP (x := (Pp.mk (60 + ((j : Nat) : Int)) 1 (mostI 2 m13) 2)) ho400
                  refine F.q (v := .pointer (some ⟨b33, 1, none⟩)) (hr := (r_field (k := 1) rfl (ev_any (by kernel_rfl)) (by kernel_rfl))) (h := ?_)
                  refine M.ss (v := .slice (some ⟨g397, 0, none⟩) (n0_c3_1 + 1) cap398) (j := 1) (news := [.slice (some ⟨g397, 0, none⟩) (n0_c3_1 + 1) cap398]) (cs' := #[.int .i64 m13, .slice (some ⟨g397, 0, none⟩) (n0_c3_1 + 1) cap398]) s404 rfl (by kernel_rfl) rfl rfl (by kernel_rfl) (by kernel_rfl) x379 (by kernel_rfl) (by kernel_rfl) (by simp) (by kernel_rfl) (by kernel_rfl) (.inl (by simp)) (fun w410 g411 x412 s413 => ?_)
                  have x388 := (g411.block _ (blk_lt x388) (fun e9 => ne393 (Option.some.inj e9).symm)).trans x388
                  have ho414 := own_grown ho400 g411 (fun j e1 e2 => by cases e2; exact nb407 e1.symm)
                  refine F.endF [(0, .pointer (some ⟨B, 0, none⟩)), (2, .pointer (some ⟨b2, 0, none⟩)), (3, .pointer (some ⟨b33, 0, none⟩)), (4, .pointer (some ⟨b52, 0, none⟩)), (5, .int .i64 ((j : Nat) : Int)), (10, .int .i64 x72), (11, .bool false), (17, .bool false), (29, .bool false), (41, .bool false), (53, .bool true), (65, .bool true)] (fun U415 => ?_)
                  have x368 := Cur.sm x368 s413 (ne2 nb0_c3_1_B (fun e9 => ne40 (Option.some.inj e9))) (in2 (fun j e => Nat.le_trans hN (World.ownsRow.lt ho370 j e).1) (fun j e => by cases e; exact Nat.le_trans hN lo39))
                  have x6 := SM.blk s413 x6 (ne2 nb0_c3_1_b2 (fun e9 => ne41 (Option.some.inj e9)))
                  have x66 := SM.blk s413 x66 (ne2 nb0_c3_1_b52 (fun e9 => ne61 (Option.some.inj e9).symm))
                  have c416 := (SM.fr (B := B) c374 s413 (in2 (fun kq e => .inr (World.ownsRow.lt ho370 kq e).1) (fun kq e => .inr (by cases e; exact lo39))))
                  refine h22 _ _ ?_
                  refine W.region_quiet [(0, false), (1, false), (2, false)] (by kernel_rfl) ?_
                  refine F.mv (v := .int .i64 ((j : Nat) : Int)) (h := ?_)
                  refine F.q (v := .int .i64 ((j + 1 : Nat) : Int)) (hr := (r_add (m := ((j : Nat) : Int)) (n := 1) (z := ((j + 1 : Nat) : Int)) rfl (ev_any (by kernel_rfl)) (ev_any (by kernel_rfl)) (by omega) (by omega))) (h := ?_)
                  refine F.as (v := .int .i64 ((j + 1 : Nat) : Int)) (h := ?_)
                  refine F.endF [(0, .pointer (some ⟨B, 0, none⟩)), (2, .pointer (some ⟨b2, 0, none⟩)), (3, .pointer (some ⟨b33, 0, none⟩)), (4, .pointer (some ⟨b52, 0, none⟩)), (5, .int .i64 ((j + 1 : Nat) : Int)), (10, .int .i64 x72), (11, .bool false), (17, .bool false), (29, .bool false), (41, .bool false), (53, .bool true), (65, .bool true)] (fun U417 => ?_)
                  exact h19 _ _ _ (by omega : (13 - (j + 1)) < _) ⟨j + 1, (qs ++ [(Pp.mk (60 + ((j : Nat) : Int)) 1 (mostI 2 m13) 2)]), (some ⟨g397, 0, none⟩), (n0_c3_1 + 1), cap398, (fun iU9 => lk [(0, .pointer (some ⟨B, 0, none⟩)), (2, .pointer (some ⟨b2, 0, none⟩)), (3, .pointer (some ⟨b33, 0, none⟩)), (4, .pointer (some ⟨b52, 0, none⟩)), (5, .int .i64 ((j + 1 : Nat) : Int)), (10, .int .i64 x72), (11, .bool false), (17, .bool false), (29, .bool false), (41, .bool false), (53, .bool true), (65, .bool true)] iU9 (U417 iU9)), (by kernel_rfl), rfl, (by omega), (sm_snoc hps1 (sm_mk (by omega))), (by rw [snoc_len]; omega), (Cur.mono x368 (by omega)), x6, x412, x66, ho414, nb405, nb406, nb407, nb408, c416⟩
                · refine W.slq (v := .int .i64 m13) s377 rfl (r_load rfl (by kernel_rfl) (by kernel_rfl) (eqS (blk_cell (j := 0) x379 (by kernel_rfl)))) (by kernel_rfl) rfl ?_
                  refine F.nx ?_
                  refine W.sbr ?_ ?_
                  · refine W.slq (v := .slice A0_c3_1 n0_c3_1 c0_c3_1) s377 rfl (r_load rfl (by kernel_rfl) (by kernel_rfl) (eqS (blk_cell (j := 1) x379 (by kernel_rfl)))) (by kernel_rfl) rfl ?_
                    refine F.nx ?_
                    have hmo := mostI_is 2 m13
                    refine W.sc (vs := [.int .i64 2, .int .i64 m13]) rfl rfl (by kernel_rfl) (by kernel_rfl) (by kernel_rfl) rfl (l1Most_any 2 m13 _) ?_
                    rintro e w419 ⟨rfl, b418⟩
                    have s420 := SM.of_below s377 b418
                    refine ⟨_, rfl, s420, ?_⟩
                    refine F.nx ?_
                    have x379 := (b418.block _ (blk_lt x379)).trans x379
                    have ho421 := own_kept ho378 b418
                    refine F.q (v := .agg #[.int .i64 (60 + ((j : Nat) : Int)), .int .i64 1, .int .i64 (mostI 2 m13), .int .i64 2]) (hr := (r_build rfl (vs := [(0, .int .i64 (60 + ((j : Nat) : Int))), (1, .int .i64 1), (2, .int .i64 (mostI 2 m13)), (3, .int .i64 2)]) (by kernel_rfl) (by kernel_rfl))) (h := ?_)
                    refine M.sn (fun b => .slice (some ⟨b, 0, none⟩) 1 1) #[.int .i64 (60 + ((j : Nat) : Int)), .int .i64 1, .int .i64 (mostI 2 m13), .int .i64 2] 51 s420 rfl (by kernel_rfl) rfl (fun _ => by kernel_rfl) (fun b422 w423 hb424 k425 x426 s427 => ?_)
                    refine F.nx ?_
                    have lo428 : w.heap.size ≤ b422 := Nat.le_trans ((SM.fr (B := B) c374 s420 (in2 (fun kq e => .inr (World.ownsRow.lt ho370 kq e).1) (fun kq e => .inr (by cases e; exact lo39))))).size (Nat.le_of_eq hb424)
                    have ne429 : B ≠ b422 := Nat.ne_of_lt (Nat.lt_of_lt_of_eq (Nat.lt_of_lt_of_le (Cur.lt x368) (s420).size) hb424)
                    have ne430 : b2 ≠ b422 := Nat.ne_of_lt (Nat.lt_of_lt_of_eq (Nat.lt_of_lt_of_le (blk_lt x6) (s420).size) hb424)
                    have ne431 : b33 ≠ b422 := Nat.ne_of_lt (Nat.lt_of_lt_of_eq (blk_lt x379) hb424)
                    have ne432 : b52 ≠ b422 := Nat.ne_of_lt (Nat.lt_of_lt_of_eq (Nat.lt_of_lt_of_le (blk_lt x66) (s420).size) hb424)
                    have nb433 : Nb b422 (.slice A0_c3_1 n0_c3_1 c0_c3_1) := nb_hi ho421 (Nat.le_of_eq hb424)
                    have x379 := (k425.block _ (blk_lt x379)).trans x379
                    have ho434 := own_kept ho421 k425
                    refine M.sap (e := 51) (size := 4) (base := w.heap.size) (m := 1) (v := .slice A0_c3_1 n0_c3_1 c0_c3_1) (c := 1) s427 rfl rfl rfl rfl (by kernel_rfl) (by kernel_rfl) (by kernel_rfl) ho434 x426 (by kernel_rfl) (by kernel_rfl) (by omega) (by omega) (by have := ((SM.fr (B := B) c374 s427 (in2 (fun kq e => .inr (World.ownsRow.lt ho370 kq e).1) (fun kq e => .inr (by cases e; exact lo39))))).size; omega) (.inl (by simp)) (fun g435 cap436 w437 ho438 hg439 hat440 hlt441 s442 => ?_)
                    refine F.nx ?_
                    have nb443 : Nb B (.slice (some ⟨g435, 0, none⟩) (n0_c3_1 + 1) cap436) := nb_app nb0_c3_1_B (Nat.lt_of_lt_of_le (Cur.lt x368) (s427).size) hat440
                    have nb444 : Nb b2 (.slice (some ⟨g435, 0, none⟩) (n0_c3_1 + 1) cap436) := nb_app nb0_c3_1_b2 (Nat.lt_of_lt_of_le (blk_lt x6) (s427).size) hat440
                    have nb445 : Nb b33 (.slice (some ⟨g435, 0, none⟩) (n0_c3_1 + 1) cap436) := nb_app nb0_c3_1_b33 (blk_lt x379) hat440
                    have x379 := (hg439.block _ (blk_lt x379) nb0_c3_1_b33).trans x379
                    have nb446 : Nb b52 (.slice (some ⟨g435, 0, none⟩) (n0_c3_1 + 1) cap436) := nb_app nb0_c3_1_b52 (Nat.lt_of_lt_of_le (blk_lt x66) (s427).size) hat440
                    have nb447 : Nb b422 (.slice (some ⟨g435, 0, none⟩) (n0_c3_1 + 1) cap436) := nb_app nb433 (blk_lt x426) hat440
                    have x426 := (hg439.block _ (blk_lt x426) nb433).trans x426
                    have ho438 := own_snocP (x := (Pp.mk (60 + ((j : Nat) : Int)) 1 (mostI 2 m13) 2)) ho438
                    refine F.q (v := .pointer (some ⟨b33, 1, none⟩)) (hr := (r_field (k := 1) rfl (ev_any (by kernel_rfl)) (by kernel_rfl))) (h := ?_)
                    refine M.ss (v := .slice (some ⟨g435, 0, none⟩) (n0_c3_1 + 1) cap436) (j := 1) (news := [.slice (some ⟨g435, 0, none⟩) (n0_c3_1 + 1) cap436]) (cs' := #[.int .i64 m13, .slice (some ⟨g435, 0, none⟩) (n0_c3_1 + 1) cap436]) s442 rfl (by kernel_rfl) rfl rfl (by kernel_rfl) (by kernel_rfl) x379 (by kernel_rfl) (by kernel_rfl) (by simp) (by kernel_rfl) (by kernel_rfl) (.inl (by simp)) (fun w448 g449 x450 s451 => ?_)
                    have x426 := (g449.block _ (blk_lt x426) (fun e9 => ne431 (Option.some.inj e9).symm)).trans x426
                    have ho452 := own_grown ho438 g449 (fun j e1 e2 => by cases e2; exact nb445 e1.symm)
                    refine F.endF [(0, .pointer (some ⟨B, 0, none⟩)), (2, .pointer (some ⟨b2, 0, none⟩)), (3, .pointer (some ⟨b33, 0, none⟩)), (4, .pointer (some ⟨b52, 0, none⟩)), (5, .int .i64 ((j : Nat) : Int)), (10, .int .i64 x72), (11, .bool false), (17, .bool false), (29, .bool false), (41, .bool false), (53, .bool true), (65, .bool true)] (fun U453 => ?_)
                    have x368 := Cur.sm x368 s451 (ne2 nb0_c3_1_B (fun e9 => ne40 (Option.some.inj e9))) (in2 (fun j e => Nat.le_trans hN (World.ownsRow.lt ho370 j e).1) (fun j e => by cases e; exact Nat.le_trans hN lo39))
                    have x6 := SM.blk s451 x6 (ne2 nb0_c3_1_b2 (fun e9 => ne41 (Option.some.inj e9)))
                    have x66 := SM.blk s451 x66 (ne2 nb0_c3_1_b52 (fun e9 => ne61 (Option.some.inj e9).symm))
                    have c454 := (SM.fr (B := B) c374 s451 (in2 (fun kq e => .inr (World.ownsRow.lt ho370 kq e).1) (fun kq e => .inr (by cases e; exact lo39))))
                    refine h22 _ _ ?_
                    refine W.region_quiet [(0, false), (1, false), (2, false)] (by kernel_rfl) ?_
                    refine F.mv (v := .int .i64 ((j : Nat) : Int)) (h := ?_)
                    refine F.q (v := .int .i64 ((j + 1 : Nat) : Int)) (hr := (r_add (m := ((j : Nat) : Int)) (n := 1) (z := ((j + 1 : Nat) : Int)) rfl (ev_any (by kernel_rfl)) (ev_any (by kernel_rfl)) (by omega) (by omega))) (h := ?_)
                    refine F.as (v := .int .i64 ((j + 1 : Nat) : Int)) (h := ?_)
                    refine F.endF [(0, .pointer (some ⟨B, 0, none⟩)), (2, .pointer (some ⟨b2, 0, none⟩)), (3, .pointer (some ⟨b33, 0, none⟩)), (4, .pointer (some ⟨b52, 0, none⟩)), (5, .int .i64 ((j + 1 : Nat) : Int)), (10, .int .i64 x72), (11, .bool false), (17, .bool false), (29, .bool false), (41, .bool false), (53, .bool true), (65, .bool true)] (fun U455 => ?_)
                    exact h19 _ _ _ (by omega : (13 - (j + 1)) < _) ⟨j + 1, (qs ++ [(Pp.mk (60 + ((j : Nat) : Int)) 1 (mostI 2 m13) 2)]), (some ⟨g435, 0, none⟩), (n0_c3_1 + 1), cap436, (fun iU9 => lk [(0, .pointer (some ⟨B, 0, none⟩)), (2, .pointer (some ⟨b2, 0, none⟩)), (3, .pointer (some ⟨b33, 0, none⟩)), (4, .pointer (some ⟨b52, 0, none⟩)), (5, .int .i64 ((j + 1 : Nat) : Int)), (10, .int .i64 x72), (11, .bool false), (17, .bool false), (29, .bool false), (41, .bool false), (53, .bool true), (65, .bool true)] iU9 (U455 iU9)), (by kernel_rfl), rfl, (by omega), (sm_snoc hps1 (sm_mk (by omega))), (by rw [snoc_len]; omega), (Cur.mono x368 (by omega)), x6, x450, x66, ho452, nb443, nb444, nb445, nb446, c454⟩
                  · have hmo := mostI_is 2 m13
                    refine W.sc (vs := [.int .i64 2, .int .i64 m13]) rfl rfl (by kernel_rfl) (by kernel_rfl) (by kernel_rfl) rfl (l1Most_any 2 m13 _) ?_
                    rintro e w457 ⟨rfl, b456⟩
                    have s458 := SM.of_below s377 b456
                    refine ⟨_, rfl, s458, ?_⟩
                    refine F.nx ?_
                    have x379 := (b456.block _ (blk_lt x379)).trans x379
                    have ho459 := own_kept ho378 b456
                    refine F.q (v := .agg #[.int .i64 (60 + ((j : Nat) : Int)), .int .i64 1, .int .i64 (mostI 2 m13), .int .i64 2]) (hr := (r_build rfl (vs := [(0, .int .i64 (60 + ((j : Nat) : Int))), (1, .int .i64 1), (2, .int .i64 (mostI 2 m13)), (3, .int .i64 2)]) (by kernel_rfl) (by kernel_rfl))) (h := ?_)
                    refine W.sbr ?_ ?_
                    · refine W.slq (v := .slice A0_c3_1 n0_c3_1 c0_c3_1) s458 rfl (r_load rfl (by kernel_rfl) (by kernel_rfl) (eqS (blk_cell (j := 1) x379 (by kernel_rfl)))) (by kernel_rfl) rfl ?_
                      refine F.nx ?_
                      refine M.sn (fun b => .slice (some ⟨b, 0, none⟩) 1 1) #[.int .i64 (60 + ((j : Nat) : Int)), .int .i64 1, .int .i64 (mostI 2 m13), .int .i64 2] 51 s458 rfl (by kernel_rfl) rfl (fun _ => by kernel_rfl) (fun b460 w461 hb462 k463 x464 s465 => ?_)
                      refine F.nx ?_
                      have lo466 : w.heap.size ≤ b460 := Nat.le_trans ((SM.fr (B := B) c374 s458 (in2 (fun kq e => .inr (World.ownsRow.lt ho370 kq e).1) (fun kq e => .inr (by cases e; exact lo39))))).size (Nat.le_of_eq hb462)
                      have ne467 : B ≠ b460 := Nat.ne_of_lt (Nat.lt_of_lt_of_eq (Nat.lt_of_lt_of_le (Cur.lt x368) (s458).size) hb462)
                      have ne468 : b2 ≠ b460 := Nat.ne_of_lt (Nat.lt_of_lt_of_eq (Nat.lt_of_lt_of_le (blk_lt x6) (s458).size) hb462)
                      have ne469 : b33 ≠ b460 := Nat.ne_of_lt (Nat.lt_of_lt_of_eq (blk_lt x379) hb462)
                      have ne470 : b52 ≠ b460 := Nat.ne_of_lt (Nat.lt_of_lt_of_eq (Nat.lt_of_lt_of_le (blk_lt x66) (s458).size) hb462)
                      have nb471 : Nb b460 (.slice A0_c3_1 n0_c3_1 c0_c3_1) := nb_hi ho459 (Nat.le_of_eq hb462)
                      have x379 := (k463.block _ (blk_lt x379)).trans x379
                      have ho472 := own_kept ho459 k463
                      refine M.sap (e := 51) (size := 4) (base := w.heap.size) (m := 1) (v := .slice A0_c3_1 n0_c3_1 c0_c3_1) (c := 1) s465 rfl rfl rfl rfl (by kernel_rfl) (by kernel_rfl) (by kernel_rfl) ho472 x464 (by kernel_rfl) (by kernel_rfl) (by omega) (by omega) (by have := ((SM.fr (B := B) c374 s465 (in2 (fun kq e => .inr (World.ownsRow.lt ho370 kq e).1) (fun kq e => .inr (by cases e; exact lo39))))).size; omega) (.inl (by simp)) (fun g473 cap474 w475 ho476 hg477 hat478 hlt479 s480 => ?_)
                      refine F.nx ?_
                      have nb481 : Nb B (.slice (some ⟨g473, 0, none⟩) (n0_c3_1 + 1) cap474) := nb_app nb0_c3_1_B (Nat.lt_of_lt_of_le (Cur.lt x368) (s465).size) hat478
                      have nb482 : Nb b2 (.slice (some ⟨g473, 0, none⟩) (n0_c3_1 + 1) cap474) := nb_app nb0_c3_1_b2 (Nat.lt_of_lt_of_le (blk_lt x6) (s465).size) hat478
                      have nb483 : Nb b33 (.slice (some ⟨g473, 0, none⟩) (n0_c3_1 + 1) cap474) := nb_app nb0_c3_1_b33 (blk_lt x379) hat478
                      have x379 := (hg477.block _ (blk_lt x379) nb0_c3_1_b33).trans x379
                      have nb484 : Nb b52 (.slice (some ⟨g473, 0, none⟩) (n0_c3_1 + 1) cap474) := nb_app nb0_c3_1_b52 (Nat.lt_of_lt_of_le (blk_lt x66) (s465).size) hat478
                      have nb485 : Nb b460 (.slice (some ⟨g473, 0, none⟩) (n0_c3_1 + 1) cap474) := nb_app nb471 (blk_lt x464) hat478
                      have x464 := (hg477.block _ (blk_lt x464) nb471).trans x464
                      have ho476 := own_snocP (x := (Pp.mk (60 + ((j : Nat) : Int)) 1 (mostI 2 m13) 2)) ho476
                      refine F.q (v := .pointer (some ⟨b33, 1, none⟩)) (hr := (r_field (k := 1) rfl (ev_any (by kernel_rfl)) (by kernel_rfl))) (h := ?_)
                      refine M.ss (v := .slice (some ⟨g473, 0, none⟩) (n0_c3_1 + 1) cap474) (j := 1) (news := [.slice (some ⟨g473, 0, none⟩) (n0_c3_1 + 1) cap474]) (cs' := #[.int .i64 m13, .slice (some ⟨g473, 0, none⟩) (n0_c3_1 + 1) cap474]) s480 rfl (by kernel_rfl) rfl rfl (by kernel_rfl) (by kernel_rfl) x379 (by kernel_rfl) (by kernel_rfl) (by simp) (by kernel_rfl) (by kernel_rfl) (.inl (by simp)) (fun w486 g487 x488 s489 => ?_)
                      have x464 := (g487.block _ (blk_lt x464) (fun e9 => ne469 (Option.some.inj e9).symm)).trans x464
                      have ho490 := own_grown ho476 g487 (fun j e1 e2 => by cases e2; exact nb483 e1.symm)
                      refine F.endF [(0, .pointer (some ⟨B, 0, none⟩)), (2, .pointer (some ⟨b2, 0, none⟩)), (3, .pointer (some ⟨b33, 0, none⟩)), (4, .pointer (some ⟨b52, 0, none⟩)), (5, .int .i64 ((j : Nat) : Int)), (10, .int .i64 x72), (11, .bool false), (17, .bool false), (29, .bool false), (41, .bool false), (53, .bool true), (65, .bool true)] (fun U491 => ?_)
                      have x368 := Cur.sm x368 s489 (ne2 nb0_c3_1_B (fun e9 => ne40 (Option.some.inj e9))) (in2 (fun j e => Nat.le_trans hN (World.ownsRow.lt ho370 j e).1) (fun j e => by cases e; exact Nat.le_trans hN lo39))
                      have x6 := SM.blk s489 x6 (ne2 nb0_c3_1_b2 (fun e9 => ne41 (Option.some.inj e9)))
                      have x66 := SM.blk s489 x66 (ne2 nb0_c3_1_b52 (fun e9 => ne61 (Option.some.inj e9).symm))
                      have c492 := (SM.fr (B := B) c374 s489 (in2 (fun kq e => .inr (World.ownsRow.lt ho370 kq e).1) (fun kq e => .inr (by cases e; exact lo39))))
                      refine h22 _ _ ?_
                      refine W.region_quiet [(0, false), (1, false), (2, false)] (by kernel_rfl) ?_
                      refine F.mv (v := .int .i64 ((j : Nat) : Int)) (h := ?_)
                      refine F.q (v := .int .i64 ((j + 1 : Nat) : Int)) (hr := (r_add (m := ((j : Nat) : Int)) (n := 1) (z := ((j + 1 : Nat) : Int)) rfl (ev_any (by kernel_rfl)) (ev_any (by kernel_rfl)) (by omega) (by omega))) (h := ?_)
                      refine F.as (v := .int .i64 ((j + 1 : Nat) : Int)) (h := ?_)
                      refine F.endF [(0, .pointer (some ⟨B, 0, none⟩)), (2, .pointer (some ⟨b2, 0, none⟩)), (3, .pointer (some ⟨b33, 0, none⟩)), (4, .pointer (some ⟨b52, 0, none⟩)), (5, .int .i64 ((j + 1 : Nat) : Int)), (10, .int .i64 x72), (11, .bool false), (17, .bool false), (29, .bool false), (41, .bool false), (53, .bool true), (65, .bool true)] (fun U493 => ?_)
                      exact h19 _ _ _ (by omega : (13 - (j + 1)) < _) ⟨j + 1, (qs ++ [(Pp.mk (60 + ((j : Nat) : Int)) 1 (mostI 2 m13) 2)]), (some ⟨g473, 0, none⟩), (n0_c3_1 + 1), cap474, (fun iU9 => lk [(0, .pointer (some ⟨B, 0, none⟩)), (2, .pointer (some ⟨b2, 0, none⟩)), (3, .pointer (some ⟨b33, 0, none⟩)), (4, .pointer (some ⟨b52, 0, none⟩)), (5, .int .i64 ((j + 1 : Nat) : Int)), (10, .int .i64 x72), (11, .bool false), (17, .bool false), (29, .bool false), (41, .bool false), (53, .bool true), (65, .bool true)] iU9 (U493 iU9)), (by kernel_rfl), rfl, (by omega), (sm_snoc hps1 (sm_mk (by omega))), (by rw [snoc_len]; omega), (Cur.mono x368 (by omega)), x6, x488, x66, ho490, nb481, nb482, nb483, nb484, c492⟩
                    · refine M.sn (fun b => .slice (some ⟨b, 0, none⟩) 1 1) #[.int .i64 (60 + ((j : Nat) : Int)), .int .i64 1, .int .i64 (mostI 2 m13), .int .i64 2] 51 s458 rfl (by kernel_rfl) rfl (fun _ => by kernel_rfl) (fun b494 w495 hb496 k497 x498 s499 => ?_)
                      refine F.nx ?_
                      have lo500 : w.heap.size ≤ b494 := Nat.le_trans ((SM.fr (B := B) c374 s458 (in2 (fun kq e => .inr (World.ownsRow.lt ho370 kq e).1) (fun kq e => .inr (by cases e; exact lo39))))).size (Nat.le_of_eq hb496)
                      have ne501 : B ≠ b494 := Nat.ne_of_lt (Nat.lt_of_lt_of_eq (Nat.lt_of_lt_of_le (Cur.lt x368) (s458).size) hb496)
                      have ne502 : b2 ≠ b494 := Nat.ne_of_lt (Nat.lt_of_lt_of_eq (Nat.lt_of_lt_of_le (blk_lt x6) (s458).size) hb496)
                      have ne503 : b33 ≠ b494 := Nat.ne_of_lt (Nat.lt_of_lt_of_eq (blk_lt x379) hb496)
                      have ne504 : b52 ≠ b494 := Nat.ne_of_lt (Nat.lt_of_lt_of_eq (Nat.lt_of_lt_of_le (blk_lt x66) (s458).size) hb496)
                      have nb505 : Nb b494 (.slice A0_c3_1 n0_c3_1 c0_c3_1) := nb_hi ho459 (Nat.le_of_eq hb496)
                      have x379 := (k497.block _ (blk_lt x379)).trans x379
                      have ho506 := own_kept ho459 k497
                      refine W.slq (v := .slice A0_c3_1 n0_c3_1 c0_c3_1) s499 rfl (r_load rfl (by kernel_rfl) (by kernel_rfl) (eqS (blk_cell (j := 1) x379 (by kernel_rfl)))) (by kernel_rfl) rfl ?_
                      refine F.nx ?_
                      refine M.sap (e := 51) (size := 4) (base := w.heap.size) (m := 1) (v := .slice A0_c3_1 n0_c3_1 c0_c3_1) (c := 1) s499 rfl rfl rfl rfl (by kernel_rfl) (by kernel_rfl) (by kernel_rfl) ho506 x498 (by kernel_rfl) (by kernel_rfl) (by omega) (by omega) (by have := ((SM.fr (B := B) c374 s499 (in2 (fun kq e => .inr (World.ownsRow.lt ho370 kq e).1) (fun kq e => .inr (by cases e; exact lo39))))).size; omega) (.inl (by simp)) (fun g507 cap508 w509 ho510 hg511 hat512 hlt513 s514 => ?_)
                      refine F.nx ?_
                      have nb515 : Nb B (.slice (some ⟨g507, 0, none⟩) (n0_c3_1 + 1) cap508) := nb_app nb0_c3_1_B (Nat.lt_of_lt_of_le (Cur.lt x368) (s499).size) hat512
                      have nb516 : Nb b2 (.slice (some ⟨g507, 0, none⟩) (n0_c3_1 + 1) cap508) := nb_app nb0_c3_1_b2 (Nat.lt_of_lt_of_le (blk_lt x6) (s499).size) hat512
                      have nb517 : Nb b33 (.slice (some ⟨g507, 0, none⟩) (n0_c3_1 + 1) cap508) := nb_app nb0_c3_1_b33 (blk_lt x379) hat512
                      have x379 := (hg511.block _ (blk_lt x379) nb0_c3_1_b33).trans x379
                      have nb518 : Nb b52 (.slice (some ⟨g507, 0, none⟩) (n0_c3_1 + 1) cap508) := nb_app nb0_c3_1_b52 (Nat.lt_of_lt_of_le (blk_lt x66) (s499).size) hat512
                      have nb519 : Nb b494 (.slice (some ⟨g507, 0, none⟩) (n0_c3_1 + 1) cap508) := nb_app nb505 (blk_lt x498) hat512
                      have x498 := (hg511.block _ (blk_lt x498) nb505).trans x498
                      have ho510 := own_snocP (x := (Pp.mk (60 + ((j : Nat) : Int)) 1 (mostI 2 m13) 2)) ho510
                      refine F.q (v := .pointer (some ⟨b33, 1, none⟩)) (hr := (r_field (k := 1) rfl (ev_any (by kernel_rfl)) (by kernel_rfl))) (h := ?_)
                      refine M.ss (v := .slice (some ⟨g507, 0, none⟩) (n0_c3_1 + 1) cap508) (j := 1) (news := [.slice (some ⟨g507, 0, none⟩) (n0_c3_1 + 1) cap508]) (cs' := #[.int .i64 m13, .slice (some ⟨g507, 0, none⟩) (n0_c3_1 + 1) cap508]) s514 rfl (by kernel_rfl) rfl rfl (by kernel_rfl) (by kernel_rfl) x379 (by kernel_rfl) (by kernel_rfl) (by simp) (by kernel_rfl) (by kernel_rfl) (.inl (by simp)) (fun w520 g521 x522 s523 => ?_)
                      have x498 := (g521.block _ (blk_lt x498) (fun e9 => ne503 (Option.some.inj e9).symm)).trans x498
                      have ho524 := own_grown ho510 g521 (fun j e1 e2 => by cases e2; exact nb517 e1.symm)
                      refine F.endF [(0, .pointer (some ⟨B, 0, none⟩)), (2, .pointer (some ⟨b2, 0, none⟩)), (3, .pointer (some ⟨b33, 0, none⟩)), (4, .pointer (some ⟨b52, 0, none⟩)), (5, .int .i64 ((j : Nat) : Int)), (10, .int .i64 x72), (11, .bool false), (17, .bool false), (29, .bool false), (41, .bool false), (53, .bool true), (65, .bool true)] (fun U525 => ?_)
                      have x368 := Cur.sm x368 s523 (ne2 nb0_c3_1_B (fun e9 => ne40 (Option.some.inj e9))) (in2 (fun j e => Nat.le_trans hN (World.ownsRow.lt ho370 j e).1) (fun j e => by cases e; exact Nat.le_trans hN lo39))
                      have x6 := SM.blk s523 x6 (ne2 nb0_c3_1_b2 (fun e9 => ne41 (Option.some.inj e9)))
                      have x66 := SM.blk s523 x66 (ne2 nb0_c3_1_b52 (fun e9 => ne61 (Option.some.inj e9).symm))
                      have c526 := (SM.fr (B := B) c374 s523 (in2 (fun kq e => .inr (World.ownsRow.lt ho370 kq e).1) (fun kq e => .inr (by cases e; exact lo39))))
                      refine h22 _ _ ?_
                      refine W.region_quiet [(0, false), (1, false), (2, false)] (by kernel_rfl) ?_
                      refine F.mv (v := .int .i64 ((j : Nat) : Int)) (h := ?_)
                      refine F.q (v := .int .i64 ((j + 1 : Nat) : Int)) (hr := (r_add (m := ((j : Nat) : Int)) (n := 1) (z := ((j + 1 : Nat) : Int)) rfl (ev_any (by kernel_rfl)) (ev_any (by kernel_rfl)) (by omega) (by omega))) (h := ?_)
                      refine F.as (v := .int .i64 ((j + 1 : Nat) : Int)) (h := ?_)
                      refine F.endF [(0, .pointer (some ⟨B, 0, none⟩)), (2, .pointer (some ⟨b2, 0, none⟩)), (3, .pointer (some ⟨b33, 0, none⟩)), (4, .pointer (some ⟨b52, 0, none⟩)), (5, .int .i64 ((j + 1 : Nat) : Int)), (10, .int .i64 x72), (11, .bool false), (17, .bool false), (29, .bool false), (41, .bool false), (53, .bool true), (65, .bool true)] (fun U527 => ?_)
                      exact h19 _ _ _ (by omega : (13 - (j + 1)) < _) ⟨j + 1, (qs ++ [(Pp.mk (60 + ((j : Nat) : Int)) 1 (mostI 2 m13) 2)]), (some ⟨g507, 0, none⟩), (n0_c3_1 + 1), cap508, (fun iU9 => lk [(0, .pointer (some ⟨B, 0, none⟩)), (2, .pointer (some ⟨b2, 0, none⟩)), (3, .pointer (some ⟨b33, 0, none⟩)), (4, .pointer (some ⟨b52, 0, none⟩)), (5, .int .i64 ((j + 1 : Nat) : Int)), (10, .int .i64 x72), (11, .bool false), (17, .bool false), (29, .bool false), (41, .bool false), (53, .bool true), (65, .bool true)] iU9 (U527 iU9)), (by kernel_rfl), rfl, (by omega), (sm_snoc hps1 (sm_mk (by omega))), (by rw [snoc_len]; omega), (Cur.mono x368 (by omega)), x6, x522, x66, ho524, nb515, nb516, nb517, nb518, c526⟩
              · refine F.q (v := .bool false) (hr := (r_lss (m := ((j : Nat) : Int)) (n := 12) rfl (ev_any (by kernel_rfl)) (ev_any (by kernel_rfl)) (decide_eq_false q372))) (h := ?_)
                refine F.q (v := .bool false) (hr := (r_pick (b := true) rfl (ev_any (by kernel_rfl)) (ev_any (by kernel_rfl)))) (h := ?_)
                refine F.endF [(0, .pointer (some ⟨B, 0, none⟩)), (2, .pointer (some ⟨b2, 0, none⟩)), (3, .pointer (some ⟨b33, 0, none⟩)), (4, .pointer (some ⟨b52, 0, none⟩)), (5, .int .i64 ((j : Nat) : Int)), (10, .int .i64 x72), (11, .bool false), (17, .bool false), (29, .bool false), (41, .bool false), (53, .bool true), (65, .bool false)] (fun U528 => ?_)
                have x6 := SG.blk s369 x6 (fun e9 => ne9 (Option.some.inj e9).symm)
                have x46 := SG.blk s369 x46 (fun e9 => ne40 (Option.some.inj e9).symm)
                have x66 := SG.blk s369 x66 (fun e9 => ne59 (Option.some.inj e9).symm)
                have c529 := (SG.fr (B := B) c357 s369 (fun kq e => .inl (by cases e; rfl)))
                refine h21 _ _ ?_
                refine wp_cond_false (by kernel_rfl) ?_
                refine wp_exit ?_
                refine h4 _ _ ?_
                refine wp_seq_k (fun K23 h23 => ?_)
                refine W.region_plain (row := (some b2)) [(0, false), (1, true)] (by kernel_rfl) ?_
                have s530 := SG.self w366 (some b2)
                refine F.q (v := .agg #[.int .i64 m13, .slice A0_c3_1 n0_c3_1 c0_c3_1]) (hr := (r_load2 rfl (ev_any (by kernel_rfl)) (by kernel_rfl) (by kernel_rfl) (sgS (blk_cell (j := 0) x46 (by kernel_rfl)) (fun e9 => ne41 (Option.some.inj e9).symm)) (sgS (blk_cell (j := 1) x46 (by kernel_rfl)) (fun e9 => ne41 (Option.some.inj e9).symm)))) (h := ?_)
                refine W.ss (v := .agg #[.int .i64 m13, .slice A0_c3_1 n0_c3_1 c0_c3_1]) (j := 0) (news := [.int .i64 m13, .slice A0_c3_1 n0_c3_1 c0_c3_1]) (cs' := #[.int .i64 m13, .slice A0_c3_1 n0_c3_1 c0_c3_1]) s530 rfl (by kernel_rfl) rfl rfl (by kernel_rfl) (by kernel_rfl) x6 (by kernel_rfl) (by kernel_rfl) (by simp) (by kernel_rfl) (by kernel_rfl) (.inl rfl) (fun w531 g532 x533 s534 => ?_)
                have ho535 := own_grown ho370 g532 (fun j e1 e2 => by cases e2; exact nb0_c3_1_b2 e1.symm)
                refine F.endF [(0, .pointer (some ⟨B, 0, none⟩)), (2, .pointer (some ⟨b2, 0, none⟩)), (3, .pointer (some ⟨b33, 0, none⟩)), (4, .pointer (some ⟨b52, 0, none⟩)), (5, .int .i64 ((j : Nat) : Int)), (10, .int .i64 x72), (11, .bool false), (17, .bool false), (29, .bool false), (41, .bool false), (53, .bool true), (65, .bool false)] (fun U536 => ?_)
                have x368 := Cur.grown x368 s534 (fun e9 => ne9 (Option.some.inj e9)) (fun j e => by cases e; exact Nat.le_trans hN lo8)
                have x46 := SG.blk s534 x46 (fun e9 => ne41 (Option.some.inj e9).symm)
                have x66 := SG.blk s534 x66 (fun e9 => ne60 (Option.some.inj e9).symm)
                have c537 := (SG.fr (B := B) c529 s534 (fun kq e => .inr (by cases e; exact lo8)))
                refine h23 _ _ ?_
                refine wp_ret ?_
                try simp only [Exit.then]
                refine retC rfl rfl (by kernel_rfl) (by kernel_rfl) x533 ?_
                exact ⟨_, _, _, _, qs, rfl, ⟨ho535, ⟨by omega, by omega⟩, by omega, hps1⟩, Cur.mono x368 (by omega), c537⟩
            · refine F.q (v := .bool false) (hr := (r_lss (m := ((n0_c3_1 : Nat) : Int)) (n := 10 + x363) rfl (ev_any (by kernel_rfl)) (ev_any (by kernel_rfl)) (decide_eq_false q371))) (h := ?_)
              refine F.mv (v := .bool false) (h := ?_)
              refine F.sp s369 (h := ?_)
              refine F.sp s369 (h := ?_)
              refine F.q (v := .bool false) (hr := (r_pick (b := false) rfl (ev_any (by kernel_rfl)) (ev_any (by kernel_rfl)))) (h := ?_)
              refine F.endF [(0, .pointer (some ⟨B, 0, none⟩)), (2, .pointer (some ⟨b2, 0, none⟩)), (3, .pointer (some ⟨b33, 0, none⟩)), (4, .pointer (some ⟨b52, 0, none⟩)), (5, .int .i64 ((j : Nat) : Int)), (10, .int .i64 x72), (11, .bool false), (17, .bool false), (29, .bool false), (41, .bool false), (53, .bool true), (65, .bool false)] (fun U538 => ?_)
              have x6 := SG.blk s369 x6 (fun e9 => ne9 (Option.some.inj e9).symm)
              have x46 := SG.blk s369 x46 (fun e9 => ne40 (Option.some.inj e9).symm)
              have x66 := SG.blk s369 x66 (fun e9 => ne59 (Option.some.inj e9).symm)
              have c539 := (SG.fr (B := B) c357 s369 (fun kq e => .inl (by cases e; rfl)))
              refine h21 _ _ ?_
              refine wp_cond_false (by kernel_rfl) ?_
              refine wp_exit ?_
              refine h4 _ _ ?_
              refine wp_seq_k (fun K24 h24 => ?_)
              refine W.region_plain (row := (some b2)) [(0, false), (1, true)] (by kernel_rfl) ?_
              have s540 := SG.self w366 (some b2)
              refine F.q (v := .agg #[.int .i64 m13, .slice A0_c3_1 n0_c3_1 c0_c3_1]) (hr := (r_load2 rfl (ev_any (by kernel_rfl)) (by kernel_rfl) (by kernel_rfl) (sgS (blk_cell (j := 0) x46 (by kernel_rfl)) (fun e9 => ne41 (Option.some.inj e9).symm)) (sgS (blk_cell (j := 1) x46 (by kernel_rfl)) (fun e9 => ne41 (Option.some.inj e9).symm)))) (h := ?_)
              refine W.ss (v := .agg #[.int .i64 m13, .slice A0_c3_1 n0_c3_1 c0_c3_1]) (j := 0) (news := [.int .i64 m13, .slice A0_c3_1 n0_c3_1 c0_c3_1]) (cs' := #[.int .i64 m13, .slice A0_c3_1 n0_c3_1 c0_c3_1]) s540 rfl (by kernel_rfl) rfl rfl (by kernel_rfl) (by kernel_rfl) x6 (by kernel_rfl) (by kernel_rfl) (by simp) (by kernel_rfl) (by kernel_rfl) (.inl rfl) (fun w541 g542 x543 s544 => ?_)
              have ho545 := own_grown ho370 g542 (fun j e1 e2 => by cases e2; exact nb0_c3_1_b2 e1.symm)
              refine F.endF [(0, .pointer (some ⟨B, 0, none⟩)), (2, .pointer (some ⟨b2, 0, none⟩)), (3, .pointer (some ⟨b33, 0, none⟩)), (4, .pointer (some ⟨b52, 0, none⟩)), (5, .int .i64 ((j : Nat) : Int)), (10, .int .i64 x72), (11, .bool false), (17, .bool false), (29, .bool false), (41, .bool false), (53, .bool true), (65, .bool false)] (fun U546 => ?_)
              have x368 := Cur.grown x368 s544 (fun e9 => ne9 (Option.some.inj e9)) (fun j e => by cases e; exact Nat.le_trans hN lo8)
              have x46 := SG.blk s544 x46 (fun e9 => ne41 (Option.some.inj e9).symm)
              have x66 := SG.blk s544 x66 (fun e9 => ne60 (Option.some.inj e9).symm)
              have c547 := (SG.fr (B := B) c539 s544 (fun kq e => .inr (by cases e; exact lo8)))
              refine h24 _ _ ?_
              refine wp_ret ?_
              try simp only [Exit.then]
              refine retC rfl rfl (by kernel_rfl) (by kernel_rfl) x543 ?_
              exact ⟨_, _, _, _, qs, rfl, ⟨ho545, ⟨by omega, by omega⟩, by omega, hps1⟩, Cur.mono x368 (by omega), c547⟩
          · refine F.q (v := .bool false) (hr := (r_eql (m := x72) (n := 4) rfl (ev_any (by kernel_rfl)) (ev_any (by kernel_rfl)) (decide_eq_false q354))) (h := ?_)
            refine F.as (v := .bool false) (h := ?_)
            refine F.endF [(0, .pointer (some ⟨B, 0, none⟩)), (2, .pointer (some ⟨b2, 0, none⟩)), (3, .pointer (some ⟨b33, 0, none⟩)), (4, .pointer (some ⟨b52, 0, none⟩)), (10, .int .i64 x72), (11, .bool false), (17, .bool false), (29, .bool false), (41, .bool false), (53, .bool false)] (fun U548 => ?_)
            refine h17 _ _ ?_
            refine wp_cond_false (by kernel_rfl) ?_
            refine wp_skip ?_
            refine h4 _ _ ?_
            refine wp_seq_k (fun K25 h25 => ?_)
            refine W.region_plain (row := (some b2)) [(0, false), (1, true)] (by kernel_rfl) ?_
            have s549 := SG.self w75 (some b2)
            refine F.q (v := .agg #[.int .i64 m13, .slice A14 n15 c16]) (hr := (r_load2 rfl (ev_any (by kernel_rfl)) (by kernel_rfl) (by kernel_rfl) (sgS (blk_cell (j := 0) x46 (by kernel_rfl)) (fun e9 => ne41 (Option.some.inj e9).symm)) (sgS (blk_cell (j := 1) x46 (by kernel_rfl)) (fun e9 => ne41 (Option.some.inj e9).symm)))) (h := ?_)
            refine W.ss (v := .agg #[.int .i64 m13, .slice A14 n15 c16]) (j := 0) (news := [.int .i64 m13, .slice A14 n15 c16]) (cs' := #[.int .i64 m13, .slice A14 n15 c16]) s549 rfl (by kernel_rfl) rfl rfl (by kernel_rfl) (by kernel_rfl) x6 (by kernel_rfl) (by kernel_rfl) (by simp) (by kernel_rfl) (by kernel_rfl) (.inl rfl) (fun w550 g551 x552 s553 => ?_)
            have ho554 := own_grown ho79 g551 (fun j e1 e2 => by cases e2; exact nb32 e1.symm)
            refine F.endF [(0, .pointer (some ⟨B, 0, none⟩)), (2, .pointer (some ⟨b2, 0, none⟩)), (3, .pointer (some ⟨b33, 0, none⟩)), (4, .pointer (some ⟨b52, 0, none⟩)), (10, .int .i64 x72), (11, .bool false), (17, .bool false), (29, .bool false), (41, .bool false), (53, .bool false)] (fun U555 => ?_)
            have x77 := Cur.grown x77 s553 (fun e9 => ne9 (Option.some.inj e9)) (fun j e => by cases e; exact Nat.le_trans hN lo8)
            have x46 := SG.blk s553 x46 (fun e9 => ne41 (Option.some.inj e9).symm)
            have x66 := SG.blk s553 x66 (fun e9 => ne60 (Option.some.inj e9).symm)
            have c556 := (SG.fr (B := B) c81 s553 (fun kq e => .inr (by cases e; exact lo8)))
            refine h25 _ _ ?_
            refine wp_ret ?_
            try simp only [Exit.then]
            refine retC rfl rfl (by kernel_rfl) (by kernel_rfl) x552 ?_
            exact ⟨_, _, _, _, ps17, rfl, ⟨ho554, ⟨by omega, by omega⟩, by omega, hsm19.2.2⟩, Cur.mono x77 (by omega), c556⟩

set_option maxRecDepth 100000 in
set_option maxHeartbeats 8000000 in
theorem nodeOf_any (B N k : Nat) (m : Int) (A : Option Addr) (n c : Nat) (w : World) (hc : Cur w B N k) (hk : k ≤ 900000000000) (hm : m ≤ 1000) :
    Calls Try.prog 47 #[.pointer (some ⟨B, 0, none⟩), .agg #[.int .i64 m, .slice A n c]] w fun e w' => ∃ x, e = .returned (.int .i64 x) ∧ (-1 ≤ x ∧ x ≤ 1000) ∧ Cur w' B N (k + 6) ∧ w.grownBy w' (some B) := by
  have hN := Cur.hN hc
  go_enter Try.func47, Try.ntmps47
  refine wp_seq_k (fun K1 h1 => ?_)
  refine W.region_plain (row := none) [(0, true), (1, false)] (by kernel_rfl) ?_
  have s1 := SG.self w none
  refine W.sn (fun b => .pointer (some ⟨b, 0, none⟩)) #[.int .i64 m, .slice A n c] 31 s1 rfl (by kernel_rfl) rfl (fun _ => by kernel_rfl) (fun b2 w3 hb4 k5 x6 s7 => ?_)
  have lo8 : w.heap.size ≤ b2 := Nat.le_trans ((SG.fr (B := B) (World.grownBy.refl _ _) s1 (fun kq e => by cases e))).size (Nat.le_of_eq hb4)
  have ne9 : B ≠ b2 := Nat.ne_of_lt (Nat.lt_of_lt_of_eq (Nat.lt_of_lt_of_le (Cur.lt hc) (s1).size) hb4)
  refine W.as (v := .int .i64 0) (h := ?_)
  refine W.endF 20 [(0, .pointer (some ⟨B, 0, none⟩)), (1, .agg #[.int .i64 m, .slice A n c]), (3, .pointer (some ⟨b2, 0, none⟩)), (4, .int .i64 0)] (fun U10 => ?_)
  have hc := Cur.below hc (SG.below s7)
  have c11 := (SG.fr (B := B) (World.grownBy.refl _ _) s7 (fun kq e => by cases e))
  refine h1 _ _ ?_
  refine wp_seq_k (fun K2 h2 => ?_)
  refine wp_seq_k (fun K3 h3 => ?_)
  refine W.region_plain (row := (some B)) [(0, false), (1, false), (2, false), (3, false), (4, false), (5, true), (6, false)] (by kernel_rfl) ?_
  have s12 := SG.self w3 (some B)
  refine F.q (v := .pointer (some ⟨b2, 0, none⟩)) (hr := (r_field0 rfl (ev_any (by kernel_rfl)) (by kernel_rfl))) (h := ?_)
  refine F.ld (v := .int .i64 m) (hc := (sgS (blk_cell (j := 0) x6 (by kernel_rfl)) (fun e9 => ne9 (Option.some.inj e9).symm))) (h := ?_)
  by_cases q13 : (m : Int) < (1 : Int)
  · refine F.q (v := .bool true) (hr := (r_lss (m := m) (n := 1) rfl (ev_any (by kernel_rfl)) (ev_any (by kernel_rfl)) (decide_eq_true q13))) (h := ?_)
    refine F.mv (v := .bool true) (h := ?_)
    refine F.sp s12 (h := ?_)
    refine F.sp s12 (h := ?_)
    refine F.q (v := .bool true) (hr := (r_pick (b := true) rfl (ev_any (by kernel_rfl)) (ev_any (by kernel_rfl)))) (h := ?_)
    refine F.endF [(0, .pointer (some ⟨B, 0, none⟩)), (1, .agg #[.int .i64 m, .slice A n c]), (3, .pointer (some ⟨b2, 0, none⟩)), (4, .int .i64 0), (11, .bool true)] (fun U14 => ?_)
    have x6 := SG.blk s12 x6 (fun e9 => ne9 (Option.some.inj e9).symm)
    have c15 := (SG.fr (B := B) c11 s12 (fun kq e => .inl (by cases e; rfl)))
    refine h3 _ _ ?_
    refine wp_cond_true (by kernel_rfl) ?_
    refine wp_seq_k (fun K4 h4 => ?_)
    refine W.region_plain (row := (some B)) [(0, false), (1, true), (2, true), (3, false)] (by kernel_rfl) ?_
    have s16 := SG.self w3 (some B)
    refine F.mv (v := .pointer (some ⟨B, 0, none⟩)) (h := ?_)
    refine W.sn (fun b => .slice (some ⟨b, 0, none⟩) 4 4) #[.int .i64 0, .int .i64 9, .int .i64 1, .int .i64 (-1)] 3 s16 rfl (by kernel_rfl) rfl (fun _ => by kernel_rfl) (fun b17 w18 hb19 k20 x21 s22 => ?_)
    refine F.nx ?_
    have lo23 : w.heap.size ≤ b17 := Nat.le_trans ((SG.fr (B := B) c15 s16 (fun kq e => .inl (by cases e; rfl)))).size (Nat.le_of_eq hb19)
    have ne24 : B ≠ b17 := Nat.ne_of_lt (Nat.lt_of_lt_of_eq (Cur.lt hc) hb19)
    have ne25 : b2 ≠ b17 := Nat.ne_of_lt (Nat.lt_of_lt_of_eq (Nat.lt_of_lt_of_le (blk_lt x6) (s16).size) hb19)
    have hc := Cur.below hc k20
    refine W.sc (vs := [.pointer (some ⟨B, 0, none⟩), .slice (some ⟨b17, 0, none⟩) 4 4]) rfl rfl (by kernel_rfl) (by kernel_rfl) (by kernel_rfl) rfl (among_any B N k (some ⟨b17, 0, none⟩) 4 4 [0, 9, 1, (-1)] _ hc (by omega) (rd_blk x21 rfl rfl) (sp_ne (by have := ne24; omega)) (by omega)) ?_
    rintro e w30 ⟨x26, rfl, hx27, x32, g31⟩
    have s33 := SG.of_grown s22 g31 (.inl rfl)
    refine ⟨_, rfl, s33, ?_⟩
    refine F.nx ?_
    have x21 := (g31.block _ (blk_lt x21) (fun e9 => ne24 (Option.some.inj e9).symm)).trans x21
    have hb28 := bnd_of (-1) 9 hx27 (by decide)
    refine F.as (v := .int .i64 x26) (h := ?_)
    refine F.endF [(0, .pointer (some ⟨B, 0, none⟩)), (1, .agg #[.int .i64 m, .slice A n c]), (3, .pointer (some ⟨b2, 0, none⟩)), (4, .int .i64 x26), (11, .bool true)] (fun U34 => ?_)
    have x6 := SG.blk s33 x6 (fun e9 => ne9 (Option.some.inj e9).symm)
    have c35 := (SG.fr (B := B) c15 s33 (fun kq e => .inl (by cases e; rfl)))
    refine h4 _ _ ?_
    refine wp_ret ?_
    try simp only [Exit.then]
    refine ret1 (v := .int .i64 x26) rfl (by kernel_rfl) ?_
    exact ⟨_, rfl, ⟨by omega, by omega⟩, Cur.mono x32 (by omega), c35⟩
  · refine F.q (v := .bool false) (hr := (r_lss (m := m) (n := 1) rfl (ev_any (by kernel_rfl)) (ev_any (by kernel_rfl)) (decide_eq_false q13))) (h := ?_)
    refine F.mv (v := .bool false) (h := ?_)
    refine F.mv (v := .pointer (some ⟨B, 0, none⟩)) (h := ?_)
    refine W.sc (vs := [.pointer (some ⟨B, 0, none⟩), .int .i64 12]) rfl rfl (by kernel_rfl) (by kernel_rfl) (by kernel_rfl) rfl (one_any B N k 12 _ hc (by omega) (by omega)) ?_
    rintro e w39 ⟨b36, rfl, _, x41, g40⟩
    have s42 := SG.of_grown s12 g40 (.inl rfl)
    refine ⟨_, rfl, s42, ?_⟩
    refine F.nx ?_
    rcases Bool.eq_false_or_eq_true b36 with q43 | q43
    · rw [q43]
      refine F.q (v := .bool true) (hr := (r_pick (b := false) rfl (ev_any (by kernel_rfl)) (ev_any (by kernel_rfl)))) (h := ?_)
      refine F.endF [(0, .pointer (some ⟨B, 0, none⟩)), (1, .agg #[.int .i64 m, .slice A n c]), (3, .pointer (some ⟨b2, 0, none⟩)), (4, .int .i64 0), (11, .bool true)] (fun U44 => ?_)
      have x6 := SG.blk s42 x6 (fun e9 => ne9 (Option.some.inj e9).symm)
      have c45 := (SG.fr (B := B) c11 s42 (fun kq e => .inl (by cases e; rfl)))
      refine h3 _ _ ?_
      refine wp_cond_true (by kernel_rfl) ?_
      refine wp_seq_k (fun K5 h5 => ?_)
      refine W.region_plain (row := (some B)) [(0, false), (1, true), (2, true), (3, false)] (by kernel_rfl) ?_
      have s46 := SG.self w39 (some B)
      refine F.mv (v := .pointer (some ⟨B, 0, none⟩)) (h := ?_)
      refine W.sn (fun b => .slice (some ⟨b, 0, none⟩) 4 4) #[.int .i64 0, .int .i64 9, .int .i64 1, .int .i64 (-1)] 3 s46 rfl (by kernel_rfl) rfl (fun _ => by kernel_rfl) (fun b47 w48 hb49 k50 x51 s52 => ?_)
      refine F.nx ?_
      have lo53 : w.heap.size ≤ b47 := Nat.le_trans ((SG.fr (B := B) c45 s46 (fun kq e => .inl (by cases e; rfl)))).size (Nat.le_of_eq hb49)
      have ne54 : B ≠ b47 := Nat.ne_of_lt (Nat.lt_of_lt_of_eq (Cur.lt x41) hb49)
      have ne55 : b2 ≠ b47 := Nat.ne_of_lt (Nat.lt_of_lt_of_eq (Nat.lt_of_lt_of_le (blk_lt x6) (s46).size) hb49)
      have x41 := Cur.below x41 k50
      refine W.sc (vs := [.pointer (some ⟨B, 0, none⟩), .slice (some ⟨b47, 0, none⟩) 4 4]) rfl rfl (by kernel_rfl) (by kernel_rfl) (by kernel_rfl) rfl (among_any B N (k + 2) (some ⟨b47, 0, none⟩) 4 4 [0, 9, 1, (-1)] _ x41 (by omega) (rd_blk x51 rfl rfl) (sp_ne (by have := ne54; omega)) (by omega)) ?_
      rintro e w60 ⟨x56, rfl, hx57, x62, g61⟩
      have s63 := SG.of_grown s52 g61 (.inl rfl)
      refine ⟨_, rfl, s63, ?_⟩
      refine F.nx ?_
      have x51 := (g61.block _ (blk_lt x51) (fun e9 => ne54 (Option.some.inj e9).symm)).trans x51
      have hb58 := bnd_of (-1) 9 hx57 (by decide)
      refine F.as (v := .int .i64 x56) (h := ?_)
      refine F.endF [(0, .pointer (some ⟨B, 0, none⟩)), (1, .agg #[.int .i64 m, .slice A n c]), (3, .pointer (some ⟨b2, 0, none⟩)), (4, .int .i64 x56), (11, .bool true)] (fun U64 => ?_)
      have x6 := SG.blk s63 x6 (fun e9 => ne9 (Option.some.inj e9).symm)
      have c65 := (SG.fr (B := B) c45 s63 (fun kq e => .inl (by cases e; rfl)))
      refine h5 _ _ ?_
      refine wp_ret ?_
      try simp only [Exit.then]
      refine ret1 (v := .int .i64 x56) rfl (by kernel_rfl) ?_
      exact ⟨_, rfl, ⟨by omega, by omega⟩, Cur.mono x62 (by omega), c65⟩
    · rw [q43]
      refine F.q (v := .bool false) (hr := (r_pick (b := false) rfl (ev_any (by kernel_rfl)) (ev_any (by kernel_rfl)))) (h := ?_)
      refine F.endF [(0, .pointer (some ⟨B, 0, none⟩)), (1, .agg #[.int .i64 m, .slice A n c]), (3, .pointer (some ⟨b2, 0, none⟩)), (4, .int .i64 0), (11, .bool false)] (fun U66 => ?_)
      have x6 := SG.blk s42 x6 (fun e9 => ne9 (Option.some.inj e9).symm)
      have c67 := (SG.fr (B := B) c11 s42 (fun kq e => .inl (by cases e; rfl)))
      refine h3 _ _ ?_
      refine wp_cond_false (by kernel_rfl) ?_
      refine wp_skip ?_
      refine h2 _ _ ?_
      refine wp_seq_k (fun K6 h6 => ?_)
      refine W.region_plain (row := (some B)) [(0, false), (1, false), (2, false), (3, true), (4, false), (5, false)] (by kernel_rfl) ?_
      have s68 := SG.self w39 (some B)
      refine F.mv (v := .pointer (some ⟨B, 0, none⟩)) (h := ?_)
      refine F.q (v := .pointer (some ⟨b2, 0, none⟩)) (hr := (r_field0 rfl (ev_any (by kernel_rfl)) (by kernel_rfl))) (h := ?_)
      refine F.ld (v := .int .i64 m) (hc := (sgS (blk_cell (j := 0) x6 (by kernel_rfl)) (fun e9 => ne9 (Option.some.inj e9).symm))) (h := ?_)
      refine W.sc (vs := [.pointer (some ⟨B, 0, none⟩), .int .i64 m]) rfl rfl (by kernel_rfl) (by kernel_rfl) (by kernel_rfl) rfl (pick_any B N (k + 2) m _ x41 (by omega) (by omega)) ?_
      rintro e w72 ⟨x69, rfl, hx70, x74, g73⟩
      have s75 := SG.of_grown s68 g73 (.inl rfl)
      refine ⟨_, rfl, s75, ?_⟩
      refine F.nx ?_
      refine F.q (v := .int .i64 (1 + x69)) (hr := (r_add (m := 1) (n := x69) (z := 1 + x69) rfl (ev_any (by kernel_rfl)) (ev_any (by kernel_rfl)) (rfl) (by omega))) (h := ?_)
      refine F.as (v := .int .i64 (1 + x69)) (h := ?_)
      refine F.endF [(0, .pointer (some ⟨B, 0, none⟩)), (1, .agg #[.int .i64 m, .slice A n c]), (3, .pointer (some ⟨b2, 0, none⟩)), (4, .int .i64 (1 + x69)), (11, .bool false)] (fun U76 => ?_)
      have x6 := SG.blk s75 x6 (fun e9 => ne9 (Option.some.inj e9).symm)
      have c77 := (SG.fr (B := B) c67 s75 (fun kq e => .inl (by cases e; rfl)))
      refine h6 _ _ ?_
      refine wp_ret ?_
      try simp only [Exit.then]
      refine ret1 (v := .int .i64 (1 + x69)) rfl (by kernel_rfl) ?_
      exact ⟨_, rfl, ⟨by omega, by omega⟩, Cur.mono x74 (by omega), c77⟩

set_option maxRecDepth 100000 in
set_option maxHeartbeats 8000000 in
theorem DrawIsValidNetwork_any (A : Option Addr) (n c : Nat) (zs : List Int) (w : World) (hcode : Rd w 1 A n (bytesV zs)) (hz : ∀ z ∈ zs, 0 ≤ z ∧ z < 256) (hn : n ≤ 4611686018427387904) :
    Calls Try.prog 43 #[.slice A n c] w fun e w' => ∃ (m : Int) (A' : Option Addr) (n' c' : Nat) (ps : List Pp), e = .returned (.agg #[.int .i64 m, .slice A' n' c']) ∧ w'.ownsRow w.heap.size 51 4 (.slice A' n' c') n' (pipesV ps) ∧ smD 30 m ps ∧ Below w.heap.size w w' := by
  have hl := rd_bytes_len hcode
  go_enter Try.func43, Try.ntmps43
  refine wp_seq_k (fun K1 h1 => ?_)
  refine W.region_plain (row := none) [(0, true)] (by kernel_rfl) ?_
  have s1 := SG.self w none
  refine W.sn (fun b => .pointer (some ⟨b, 0, none⟩)) #[.int .i64 0, .slice none 0 0] 31 s1 rfl (by kernel_rfl) rfl (fun _ => by kernel_rfl) (fun b2 w3 hb4 k5 x6 s7 => ?_)
  have lo8 : w.heap.size ≤ b2 := Nat.le_trans ((SG.belowR (Below.refl _ _) s1 (fun kq e => by cases e))).size (Nat.le_of_eq hb4)
  refine W.endF 9 [(0, .slice A n c), (2, .pointer (some ⟨b2, 0, none⟩))] (fun U9 => ?_)
  have c10 := (SG.belowR (Below.refl _ _) s7 (fun kq e => by cases e))
  refine h1 _ _ ?_
  refine wp_seq_k (fun K2 h2 => ?_)
  refine W.region_plain (row := none) [(0, false), (1, false), (2, true), (3, false)] (by kernel_rfl) ?_
  have s11 := SG.self w3 none
  refine F.mv (v := .slice A n c) (h := ?_)
  refine F.q (v := .agg #[.slice A n c, .int .i64 0, .int .u64 0]) (hr := (r_build rfl (vs := [(0, .slice A n c)]) (by kernel_rfl) (by kernel_rfl))) (h := ?_)
  refine W.sn (fun b => .pointer (some ⟨b, 0, none⟩)) #[.slice A n c, .int .i64 0, .int .u64 0] 68 s11 rfl (by kernel_rfl) rfl (fun _ => by kernel_rfl) (fun b12 w13 hb14 k15 x16 s17 => ?_)
  refine F.nx ?_
  have lo18 : w.heap.size ≤ b12 := Nat.le_trans ((SG.belowR c10 s11 (fun kq e => by cases e))).size (Nat.le_of_eq hb14)
  have ne19 : b2 ≠ b12 := Nat.ne_of_lt (Nat.lt_of_lt_of_eq (Nat.lt_of_lt_of_le (blk_lt x6) (s11).size) hb14)
  have x20 := Cur.new x16 hcode hz hn ((SG.belowR c10 s17 (fun kq e => by cases e))) lo18
  have hN : w.heap.size ≤ w.heap.size := Nat.le_refl _
  refine F.as (v := .pointer (some ⟨b12, 0, none⟩)) (h := ?_)
  refine F.endF [(0, .slice A n c), (2, .pointer (some ⟨b2, 0, none⟩)), (3, .pointer (some ⟨b12, 0, none⟩))] (fun U21 => ?_)
  have x6 := SG.blk s17 x6 (Option.some_ne_none _)
  have c22 := (SG.belowR c10 s17 (fun kq e => by cases e))
  refine h2 _ _ ?_
  refine wp_seq_k (fun K3 h3 => ?_)
  refine M.region_plain (row := [(some b12), (some b2)]) [(0, false), (1, true), (2, true)] (by kernel_rfl) ?_
  have s23 := SM.self w13 [(some b12), (some b2)]
  refine F.mv (v := .pointer (some ⟨b12, 0, none⟩)) (h := ?_)
  have z31 := ((SM.belowR c22 s23 (in2 (fun kq e => (by cases e; exact lo18)) (fun kq e => (by cases e; exact lo8))))).size
  have lb35 := (blk_lt x6)
  have lb36 := (Cur.lt x20)
  refine W.sc (vs := [.pointer (some ⟨b12, 0, none⟩)]) rfl rfl (by kernel_rfl) (by kernel_rfl) (by kernel_rfl) rfl (anyNetwork_any b12 w.heap.size 0 _ x20 (by omega)) ?_
  rintro e w38 ⟨m24, A25, n26, c27, ps28, rfl, ⟨ho29, hsm30⟩, x40, g39⟩
  have s41 := SM.of_grown s23 g39 (.inl (by simp))
  refine ⟨_, rfl, s41, ?_⟩
  refine F.nx ?_
  have x6 := (g39.block _ (blk_lt x6) (fun e9 => ne19 (Option.some.inj e9))).trans x6
  have ho32 := own_base (base' := w.heap.size) ho29 z31
  have hl33 := rd_pipes_len (own_rd ho32)
  have hsm30m := hsm30.1
  have hsm30n := hsm30.2.1
  have nb42 : Nb b2 (.slice A25 n26 c27) := nb_lo ho29 lb35
  have nb43 : Nb b12 (.slice A25 n26 c27) := nb_lo ho29 lb36
  refine M.ss (v := .agg #[.int .i64 m24, .slice A25 n26 c27]) (j := 0) (news := [.int .i64 m24, .slice A25 n26 c27]) (cs' := #[.int .i64 m24, .slice A25 n26 c27]) s41 rfl (by kernel_rfl) rfl rfl (by kernel_rfl) (by kernel_rfl) x6 (by kernel_rfl) (by kernel_rfl) (by simp) (by kernel_rfl) (by kernel_rfl) (.inl (by simp)) (fun w44 g45 x46 s47 => ?_)
  have x40 := Cur.grown x40 g45 (fun e9 => ne19 (Option.some.inj e9).symm) (fun j e => by cases e; exact Nat.le_trans hN lo8)
  have ho48 := own_grown ho32 g45 (fun j e1 e2 => by cases e2; exact nb42 e1.symm)
  refine F.endF [(0, .slice A n c), (2, .pointer (some ⟨b2, 0, none⟩)), (3, .pointer (some ⟨b12, 0, none⟩))] (fun U49 => ?_)
  have c50 := (SM.belowR c22 s47 (in2 (fun kq e => (by cases e; exact lo18)) (fun kq e => (by cases e; exact lo8))))
  refine h3 _ _ ?_
  refine wp_ret ?_
  try simp only [Exit.then]
  refine retC rfl rfl (by kernel_rfl) (by kernel_rfl) x46 ?_
  exact ⟨_, _, _, _, _, rfl, ho48, hsm30, c50⟩

set_option maxRecDepth 100000 in
set_option maxHeartbeats 8000000 in
theorem DrawBridgePipes_any (A : Option Addr) (n c : Nat) (zs : List Int) (w : World) (hcode : Rd w 1 A n (bytesV zs)) (hz : ∀ z ∈ zs, 0 ≤ z ∧ z < 256) (hn : n ≤ 4611686018427387904) :
    Calls Try.prog 27 #[.slice A n c] w fun e w' => ∃ (m : Int) (A' : Option Addr) (n' c' : Nat) (ps : List Pp), e = .returned (.agg #[.int .i64 m, .slice A' n' c']) ∧ w'.ownsRow w.heap.size 51 4 (.slice A' n' c') n' (pipesV ps) ∧ smD 30 m ps ∧ Below w.heap.size w w' := by
  have hl := rd_bytes_len hcode
  go_enter Try.func27, Try.ntmps27
  refine wp_seq_k (fun K1 h1 => ?_)
  refine W.region_plain (row := none) [(0, true)] (by kernel_rfl) ?_
  have s1 := SG.self w none
  refine W.sn (fun b => .pointer (some ⟨b, 0, none⟩)) #[.int .i64 0, .slice none 0 0] 31 s1 rfl (by kernel_rfl) rfl (fun _ => by kernel_rfl) (fun b2 w3 hb4 k5 x6 s7 => ?_)
  have lo8 : w.heap.size ≤ b2 := Nat.le_trans ((SG.belowR (Below.refl _ _) s1 (fun kq e => by cases e))).size (Nat.le_of_eq hb4)
  refine W.endF 5 [(0, .slice A n c), (2, .pointer (some ⟨b2, 0, none⟩))] (fun U9 => ?_)
  have c10 := (SG.belowR (Below.refl _ _) s7 (fun kq e => by cases e))
  refine h1 _ _ ?_
  refine wp_seq_k (fun K2 h2 => ?_)
  refine W.region_plain (row := (some b2)) [(0, false), (1, true), (2, true)] (by kernel_rfl) ?_
  have s11 := SG.self w3 (some b2)
  refine F.mv (v := .slice A n c) (h := ?_)
  have z19 := ((SG.belowR c10 s11 (fun kq e => by cases e; exact lo8))).size
  have lb23 := (blk_lt x6)
  refine W.sc (vs := [.slice A n c]) rfl rfl (by kernel_rfl) (by kernel_rfl) (by kernel_rfl) rfl (DrawIsValidNetwork_any A n c zs _ (Rd.kept hcode (SG.belowR c10 s11 (fun kq e => by cases e; exact lo8))) hz hn) ?_
  rintro e w25 ⟨m12, A13, n14, c15, ps16, rfl, ho17, hsm18, b24⟩
  have s26 := SG.of_below s11 b24
  refine ⟨_, rfl, s26, ?_⟩
  refine F.nx ?_
  have x6 := (b24.block _ (blk_lt x6)).trans x6
  have ho20 := own_base (base' := w.heap.size) ho17 z19
  have hl21 := rd_pipes_len (own_rd ho20)
  have nb27 : Nb b2 (.slice A13 n14 c15) := nb_lo ho17 lb23
  refine W.ss (v := .agg #[.int .i64 m12, .slice A13 n14 c15]) (j := 0) (news := [.int .i64 m12, .slice A13 n14 c15]) (cs' := #[.int .i64 m12, .slice A13 n14 c15]) s26 rfl (by kernel_rfl) rfl rfl (by kernel_rfl) (by kernel_rfl) x6 (by kernel_rfl) (by kernel_rfl) (by simp) (by kernel_rfl) (by kernel_rfl) (.inl rfl) (fun w28 g29 x30 s31 => ?_)
  have ho32 := own_grown ho20 g29 (fun j e1 e2 => by cases e2; exact nb27 e1.symm)
  refine F.endF [(0, .slice A n c), (2, .pointer (some ⟨b2, 0, none⟩))] (fun U33 => ?_)
  have c34 := (SG.belowR c10 s31 (fun kq e => by cases e; exact lo8))
  refine h2 _ _ ?_
  refine wp_ret ?_
  try simp only [Exit.then]
  refine retC rfl rfl (by kernel_rfl) (by kernel_rfl) x30 ?_
  exact ⟨_, _, _, _, _, rfl, ho32, hsm18, c34⟩

set_option maxRecDepth 100000 in
set_option maxHeartbeats 8000000 in
theorem DrawNetworkParts_any (A : Option Addr) (n c : Nat) (zs : List Int) (w : World) (hcode : Rd w 1 A n (bytesV zs)) (hz : ∀ z ∈ zs, 0 ≤ z ∧ z < 256) (hn : n ≤ 4611686018427387904) :
    Calls Try.prog 16 #[.slice A n c] w fun e w' => ∃ (m : Int) (A' : Option Addr) (n' c' : Nat) (ps : List Pp), e = .returned (.agg #[.int .i64 m, .slice A' n' c']) ∧ w'.ownsRow w.heap.size 51 4 (.slice A' n' c') n' (pipesV ps) ∧ smD 30 m ps ∧ Below w.heap.size w w' := by
  have hl := rd_bytes_len hcode
  go_enter Try.func16, Try.ntmps16
  refine wp_seq_k (fun K1 h1 => ?_)
  refine W.region_plain (row := none) [(0, true)] (by kernel_rfl) ?_
  have s1 := SG.self w none
  refine W.sn (fun b => .pointer (some ⟨b, 0, none⟩)) #[.int .i64 0, .slice none 0 0] 31 s1 rfl (by kernel_rfl) rfl (fun _ => by kernel_rfl) (fun b2 w3 hb4 k5 x6 s7 => ?_)
  have lo8 : w.heap.size ≤ b2 := Nat.le_trans ((SG.belowR (Below.refl _ _) s1 (fun kq e => by cases e))).size (Nat.le_of_eq hb4)
  refine W.endF 5 [(0, .slice A n c), (2, .pointer (some ⟨b2, 0, none⟩))] (fun U9 => ?_)
  have c10 := (SG.belowR (Below.refl _ _) s7 (fun kq e => by cases e))
  refine h1 _ _ ?_
  refine wp_seq_k (fun K2 h2 => ?_)
  refine W.region_plain (row := (some b2)) [(0, false), (1, true), (2, true)] (by kernel_rfl) ?_
  have s11 := SG.self w3 (some b2)
  refine F.mv (v := .slice A n c) (h := ?_)
  have z19 := ((SG.belowR c10 s11 (fun kq e => by cases e; exact lo8))).size
  have lb23 := (blk_lt x6)
  refine W.sc (vs := [.slice A n c]) rfl rfl (by kernel_rfl) (by kernel_rfl) (by kernel_rfl) rfl (DrawIsValidNetwork_any A n c zs _ (Rd.kept hcode (SG.belowR c10 s11 (fun kq e => by cases e; exact lo8))) hz hn) ?_
  rintro e w25 ⟨m12, A13, n14, c15, ps16, rfl, ho17, hsm18, b24⟩
  have s26 := SG.of_below s11 b24
  refine ⟨_, rfl, s26, ?_⟩
  refine F.nx ?_
  have x6 := (b24.block _ (blk_lt x6)).trans x6
  have ho20 := own_base (base' := w.heap.size) ho17 z19
  have hl21 := rd_pipes_len (own_rd ho20)
  have nb27 : Nb b2 (.slice A13 n14 c15) := nb_lo ho17 lb23
  refine W.ss (v := .agg #[.int .i64 m12, .slice A13 n14 c15]) (j := 0) (news := [.int .i64 m12, .slice A13 n14 c15]) (cs' := #[.int .i64 m12, .slice A13 n14 c15]) s26 rfl (by kernel_rfl) rfl rfl (by kernel_rfl) (by kernel_rfl) x6 (by kernel_rfl) (by kernel_rfl) (by simp) (by kernel_rfl) (by kernel_rfl) (.inl rfl) (fun w28 g29 x30 s31 => ?_)
  have ho32 := own_grown ho20 g29 (fun j e1 e2 => by cases e2; exact nb27 e1.symm)
  refine F.endF [(0, .slice A n c), (2, .pointer (some ⟨b2, 0, none⟩))] (fun U33 => ?_)
  have c34 := (SG.belowR c10 s31 (fun kq e => by cases e; exact lo8))
  refine h2 _ _ ?_
  refine wp_ret ?_
  try simp only [Exit.then]
  refine retC rfl rfl (by kernel_rfl) (by kernel_rfl) x30 ?_
  exact ⟨_, _, _, _, _, rfl, ho32, hsm18, c34⟩

set_option maxRecDepth 100000 in
set_option maxHeartbeats 8000000 in
theorem DrawPipesAt_any (A : Option Addr) (n c : Nat) (zs : List Int) (w : World) (hcode : Rd w 1 A n (bytesV zs)) (hz : ∀ z ∈ zs, 0 ≤ z ∧ z < 256) (hn : n ≤ 4611686018427387904) :
    Calls Try.prog 20 #[.slice A n c] w fun e w' => ∃ (m : Int) (A' : Option Addr) (n' c' : Nat) (ps : List Pp) (x : Int), e = .returned (.tuple #[.agg #[.int .i64 m, .slice A' n' c'], .int .i64 x]) ∧ w'.ownsRow w.heap.size 51 4 (.slice A' n' c') n' (pipesV ps) ∧ smD 30 m ps ∧ Below w.heap.size w w' := by
  have hl := rd_bytes_len hcode
  go_enter Try.func20, Try.ntmps20
  refine wp_seq_k (fun K1 h1 => ?_)
  refine W.region_plain (row := none) [(0, true), (1, false)] (by kernel_rfl) ?_
  have s1 := SG.self w none
  refine W.sn (fun b => .pointer (some ⟨b, 0, none⟩)) #[.int .i64 0, .slice none 0 0] 31 s1 rfl (by kernel_rfl) rfl (fun _ => by kernel_rfl) (fun b2 w3 hb4 k5 x6 s7 => ?_)
  have lo8 : w.heap.size ≤ b2 := Nat.le_trans ((SG.belowR (Below.refl _ _) s1 (fun kq e => by cases e))).size (Nat.le_of_eq hb4)
  refine W.as (v := .int .i64 0) (h := ?_)
  refine W.endF 15 [(0, .slice A n c), (2, .pointer (some ⟨b2, 0, none⟩)), (3, .int .i64 0)] (fun U9 => ?_)
  have c10 := (SG.belowR (Below.refl _ _) s7 (fun kq e => by cases e))
  refine h1 _ _ ?_
  refine wp_seq_k (fun K2 h2 => ?_)
  refine W.region_plain (row := none) [(0, false), (1, false), (2, true), (3, false)] (by kernel_rfl) ?_
  have s11 := SG.self w3 none
  refine F.mv (v := .slice A n c) (h := ?_)
  refine F.q (v := .agg #[.slice A n c, .int .i64 0, .int .u64 0]) (hr := (r_build rfl (vs := [(0, .slice A n c)]) (by kernel_rfl) (by kernel_rfl))) (h := ?_)
  refine W.sn (fun b => .pointer (some ⟨b, 0, none⟩)) #[.slice A n c, .int .i64 0, .int .u64 0] 68 s11 rfl (by kernel_rfl) rfl (fun _ => by kernel_rfl) (fun b12 w13 hb14 k15 x16 s17 => ?_)
  refine F.nx ?_
  have lo18 : w.heap.size ≤ b12 := Nat.le_trans ((SG.belowR c10 s11 (fun kq e => by cases e))).size (Nat.le_of_eq hb14)
  have ne19 : b2 ≠ b12 := Nat.ne_of_lt (Nat.lt_of_lt_of_eq (Nat.lt_of_lt_of_le (blk_lt x6) (s11).size) hb14)
  have x20 := Cur.new x16 hcode hz hn ((SG.belowR c10 s17 (fun kq e => by cases e))) lo18
  have hN : w.heap.size ≤ w.heap.size := Nat.le_refl _
  refine F.as (v := .pointer (some ⟨b12, 0, none⟩)) (h := ?_)
  refine F.endF [(0, .slice A n c), (2, .pointer (some ⟨b2, 0, none⟩)), (3, .int .i64 0), (4, .pointer (some ⟨b12, 0, none⟩))] (fun U21 => ?_)
  have x6 := SG.blk s17 x6 (Option.some_ne_none _)
  have c22 := (SG.belowR c10 s17 (fun kq e => by cases e))
  refine h2 _ _ ?_
  refine wp_seq_k (fun K3 h3 => ?_)
  refine W.region_plain (row := (some b12)) [(0, false), (1, true), (2, true), (3, true)] (by kernel_rfl) ?_
  have s23 := SG.self w13 (some b12)
  refine F.mv (v := .pointer (some ⟨b12, 0, none⟩)) (h := ?_)
  have z31 := ((SG.belowR c22 s23 (fun kq e => by cases e; exact lo18))).size
  have lb35 := (Nat.lt_of_lt_of_le (blk_lt x6) (s23).size)
  have lb36 := (Cur.lt x20)
  refine W.sc (vs := [.pointer (some ⟨b12, 0, none⟩)]) rfl rfl (by kernel_rfl) (by kernel_rfl) (by kernel_rfl) rfl (anyNetwork_any b12 w.heap.size 0 _ x20 (by omega)) ?_
  rintro e w38 ⟨m24, A25, n26, c27, ps28, rfl, ⟨ho29, hsm30⟩, x40, g39⟩
  have s41 := SG.of_grown s23 g39 (.inl rfl)
  refine ⟨_, rfl, s41, ?_⟩
  refine F.nx ?_
  have ho32 := own_base (base' := w.heap.size) ho29 z31
  have hl33 := rd_pipes_len (own_rd ho32)
  have hsm30m := hsm30.1
  have hsm30n := hsm30.2.1
  have nb42 : Nb b2 (.slice A25 n26 c27) := nb_lo ho29 lb35
  have nb43 : Nb b12 (.slice A25 n26 c27) := nb_lo ho29 lb36
  refine W.sn (fun b => .pointer (some ⟨b, 0, none⟩)) #[.int .i64 0, .slice none 0 0] 31 s41 rfl (by kernel_rfl) rfl (fun _ => by kernel_rfl) (fun b44 w45 hb46 k47 x48 s49 => ?_)
  refine F.nx ?_
  have lo50 : w.heap.size ≤ b44 := Nat.le_trans ((SG.belowR c22 s41 (fun kq e => by cases e; exact lo18))).size (Nat.le_of_eq hb46)
  have ne51 : b2 ≠ b44 := Nat.ne_of_lt (Nat.lt_of_lt_of_eq (Nat.lt_of_lt_of_le (blk_lt x6) (s41).size) hb46)
  have ne52 : b12 ≠ b44 := Nat.ne_of_lt (Nat.lt_of_lt_of_eq (Cur.lt x40) hb46)
  have nb53 : Nb b44 (.slice A25 n26 c27) := nb_hi ho32 (Nat.le_of_eq hb46)
  have x40 := Cur.below x40 k47
  have ho54 := own_kept ho32 k47
  refine W.ss (v := .agg #[.int .i64 m24, .slice A25 n26 c27]) (j := 0) (news := [.int .i64 m24, .slice A25 n26 c27]) (cs' := #[.int .i64 m24, .slice A25 n26 c27]) s49 rfl (by kernel_rfl) rfl rfl (by kernel_rfl) (by kernel_rfl) x48 (by kernel_rfl) (by kernel_rfl) (by simp) (by kernel_rfl) (by kernel_rfl) (.inr (Nat.le_trans (s41).size (Nat.le_of_eq hb46))) (fun w55 g56 x57 s58 => ?_)
  have x40 := Cur.grown x40 g56 (fun e9 => ne52 (Option.some.inj e9)) (fun j e => by cases e; exact Nat.le_trans hN lo50)
  have ho59 := own_grown ho54 g56 (fun j e1 e2 => by cases e2; exact nb53 e1.symm)
  refine F.endF [(0, .slice A n c), (2, .pointer (some ⟨b2, 0, none⟩)), (3, .int .i64 0), (4, .pointer (some ⟨b12, 0, none⟩)), (5, .pointer (some ⟨b44, 0, none⟩))] (fun U60 => ?_)
  have x6 := SG.blk s58 x6 (fun e9 => ne19 (Option.some.inj e9))
  have c61 := (SG.belowR c22 s58 (fun kq e => by cases e; exact lo18))
  refine h3 _ _ ?_
  refine wp_seq_k (fun K4 h4 => ?_)
  refine M.region_sch (row := [(some b12), (some b2)]) (Sch.of [(0, false), (1, false), (2, false), (3, true), (4, true), (5, false)]) (by kernel_rfl) (by kernel_rfl) (fun _ d _ _ _ h => by cases d <;> exact h) (by kernel_rfl) (fun w62 e63 s64 => ?_)
  have ho65 := own_heap ho59 e63
  have x66 := Cur.heap x40 e63
  have x67 := (heap_same e63 x6)
  refine F.q (v := .agg #[.int .i64 m24, .slice A25 n26 c27]) (hr := (r_load2 rfl (ev_any (by kernel_rfl)) (by kernel_rfl) (by kernel_rfl) (smS (blk_cell (j := 0) x57 (by kernel_rfl)) (ne2 (fun e9 => ne52 (Option.some.inj e9).symm) (fun e9 => ne51 (Option.some.inj e9).symm))) (smS (blk_cell (j := 1) x57 (by kernel_rfl)) (ne2 (fun e9 => ne52 (Option.some.inj e9).symm) (fun e9 => ne51 (Option.some.inj e9).symm))))) (h := ?_)
  refine F.mv (v := .pointer (some ⟨b12, 0, none⟩)) (h := ?_)
  refine F.q (v := .agg #[.int .i64 m24, .slice A25 n26 c27]) (hr := (r_load2 rfl (ev_any (by kernel_rfl)) (by kernel_rfl) (by kernel_rfl) (smS (blk_cell (j := 0) x57 (by kernel_rfl)) (ne2 (fun e9 => ne52 (Option.some.inj e9).symm) (fun e9 => ne51 (Option.some.inj e9).symm))) (smS (blk_cell (j := 1) x57 (by kernel_rfl)) (ne2 (fun e9 => ne52 (Option.some.inj e9).symm) (fun e9 => ne51 (Option.some.inj e9).symm))))) (h := ?_)
  refine W.sc (vs := [.pointer (some ⟨b12, 0, none⟩), .agg #[.int .i64 m24, .slice A25 n26 c27]]) rfl rfl (by kernel_rfl) (by kernel_rfl) (by kernel_rfl) rfl (nodeOf_any b12 w.heap.size (0 + 400) m24 A25 n26 c27 _ x66 (by omega) (by omega)) ?_
  rintro e w71 ⟨x68, rfl, hx69, x73, g72⟩
  have s74 := SM.of_grown s64 g72 (.inl (by simp))
  refine ⟨_, rfl, s74, ?_⟩
  refine F.nx ?_
  have x67 := (g72.block _ (blk_lt x67) (fun e9 => ne19 (Option.some.inj e9))).trans x67
  have ho75 := own_grown ho65 g72 (fun j e1 e2 => by cases e2; exact nb43 e1.symm)
  refine M.ss (v := .agg #[.int .i64 m24, .slice A25 n26 c27]) (j := 0) (news := [.int .i64 m24, .slice A25 n26 c27]) (cs' := #[.int .i64 m24, .slice A25 n26 c27]) s74 rfl (by kernel_rfl) rfl rfl (by kernel_rfl) (by kernel_rfl) x67 (by kernel_rfl) (by kernel_rfl) (by simp) (by kernel_rfl) (by kernel_rfl) (.inl (by simp)) (fun w76 g77 x78 s79 => ?_)
  have x73 := Cur.grown x73 g77 (fun e9 => ne19 (Option.some.inj e9).symm) (fun j e => by cases e; exact Nat.le_trans hN lo8)
  have ho80 := own_grown ho75 g77 (fun j e1 e2 => by cases e2; exact nb42 e1.symm)
  refine F.as (v := .int .i64 x68) (h := ?_)
  refine F.endF [(0, .slice A n c), (2, .pointer (some ⟨b2, 0, none⟩)), (3, .int .i64 x68), (4, .pointer (some ⟨b12, 0, none⟩)), (5, .pointer (some ⟨b44, 0, none⟩))] (fun U81 => ?_)
  have x57 := SM.blk s79 x57 (ne2 (fun e9 => ne52 (Option.some.inj e9).symm) (fun e9 => ne51 (Option.some.inj e9).symm))
  have c82 := (SM.belowR c61 s79 (in2 (fun kq e => (by cases e; exact lo18)) (fun kq e => (by cases e; exact lo8))))
  refine h4 _ _ ?_
  refine wp_ret ?_
  try simp only [Exit.then]
  refine retCT (x := .int .i64 x68) rfl (by kernel_rfl) (by kernel_rfl) (by kernel_rfl) (by kernel_rfl) x78 ?_
  exact ⟨_, _, _, _, _, _, rfl, ho80, hsm30, c82⟩

set_option maxRecDepth 100000 in
set_option maxHeartbeats 8000000 in
theorem DrawShortestWay_any (A : Option Addr) (n c : Nat) (zs : List Int) (w : World) (hcode : Rd w 1 A n (bytesV zs)) (hz : ∀ z ∈ zs, 0 ≤ z ∧ z < 256) (hn : n ≤ 4611686018427387904) :
    Calls Try.prog 24 #[.slice A n c] w fun e w' => ∃ (m : Int) (A' : Option Addr) (n' c' : Nat) (ps : List Pp) (x y : Int), e = .returned (.tuple #[.agg #[.int .i64 m, .slice A' n' c'], .int .i64 x, .int .i64 y]) ∧ w'.ownsRow w.heap.size 51 4 (.slice A' n' c') n' (pipesV ps) ∧ smD 30 m ps ∧ Below w.heap.size w w' := by
  have hl := rd_bytes_len hcode
  go_enter Try.func24, Try.ntmps24
  refine wp_seq_k (fun K1 h1 => ?_)
  refine W.region_plain (row := none) [(0, true), (1, false), (2, false)] (by kernel_rfl) ?_
  have s1 := SG.self w none
  refine W.sn (fun b => .pointer (some ⟨b, 0, none⟩)) #[.int .i64 0, .slice none 0 0] 31 s1 rfl (by kernel_rfl) rfl (fun _ => by kernel_rfl) (fun b2 w3 hb4 k5 x6 s7 => ?_)
  have lo8 : w.heap.size ≤ b2 := Nat.le_trans ((SG.belowR (Below.refl _ _) s1 (fun kq e => by cases e))).size (Nat.le_of_eq hb4)
  refine W.as (v := .int .i64 0) (h := ?_)
  refine W.as (v := .int .i64 0) (h := ?_)
  refine W.endF 19 [(0, .slice A n c), (2, .pointer (some ⟨b2, 0, none⟩)), (3, .int .i64 0), (4, .int .i64 0)] (fun U9 => ?_)
  have c10 := (SG.belowR (Below.refl _ _) s7 (fun kq e => by cases e))
  refine h1 _ _ ?_
  refine wp_seq_k (fun K2 h2 => ?_)
  refine W.region_plain (row := none) [(0, false), (1, false), (2, true), (3, false)] (by kernel_rfl) ?_
  have s11 := SG.self w3 none
  refine F.mv (v := .slice A n c) (h := ?_)
  refine F.q (v := .agg #[.slice A n c, .int .i64 0, .int .u64 0]) (hr := (r_build rfl (vs := [(0, .slice A n c)]) (by kernel_rfl) (by kernel_rfl))) (h := ?_)
  refine W.sn (fun b => .pointer (some ⟨b, 0, none⟩)) #[.slice A n c, .int .i64 0, .int .u64 0] 68 s11 rfl (by kernel_rfl) rfl (fun _ => by kernel_rfl) (fun b12 w13 hb14 k15 x16 s17 => ?_)
  refine F.nx ?_
  have lo18 : w.heap.size ≤ b12 := Nat.le_trans ((SG.belowR c10 s11 (fun kq e => by cases e))).size (Nat.le_of_eq hb14)
  have ne19 : b2 ≠ b12 := Nat.ne_of_lt (Nat.lt_of_lt_of_eq (Nat.lt_of_lt_of_le (blk_lt x6) (s11).size) hb14)
  have x20 := Cur.new x16 hcode hz hn ((SG.belowR c10 s17 (fun kq e => by cases e))) lo18
  have hN : w.heap.size ≤ w.heap.size := Nat.le_refl _
  refine F.as (v := .pointer (some ⟨b12, 0, none⟩)) (h := ?_)
  refine F.endF [(0, .slice A n c), (2, .pointer (some ⟨b2, 0, none⟩)), (3, .int .i64 0), (4, .int .i64 0), (5, .pointer (some ⟨b12, 0, none⟩))] (fun U21 => ?_)
  have x6 := SG.blk s17 x6 (Option.some_ne_none _)
  have c22 := (SG.belowR c10 s17 (fun kq e => by cases e))
  refine h2 _ _ ?_
  refine wp_seq_k (fun K3 h3 => ?_)
  refine W.region_plain (row := (some b12)) [(0, false), (1, true), (2, true), (3, true)] (by kernel_rfl) ?_
  have s23 := SG.self w13 (some b12)
  refine F.mv (v := .pointer (some ⟨b12, 0, none⟩)) (h := ?_)
  have z31 := ((SG.belowR c22 s23 (fun kq e => by cases e; exact lo18))).size
  have lb35 := (Nat.lt_of_lt_of_le (blk_lt x6) (s23).size)
  have lb36 := (Cur.lt x20)
  refine W.sc (vs := [.pointer (some ⟨b12, 0, none⟩)]) rfl rfl (by kernel_rfl) (by kernel_rfl) (by kernel_rfl) rfl (anyNetwork_any b12 w.heap.size 0 _ x20 (by omega)) ?_
  rintro e w38 ⟨m24, A25, n26, c27, ps28, rfl, ⟨ho29, hsm30⟩, x40, g39⟩
  have s41 := SG.of_grown s23 g39 (.inl rfl)
  refine ⟨_, rfl, s41, ?_⟩
  refine F.nx ?_
  have ho32 := own_base (base' := w.heap.size) ho29 z31
  have hl33 := rd_pipes_len (own_rd ho32)
  have hsm30m := hsm30.1
  have hsm30n := hsm30.2.1
  have nb42 : Nb b2 (.slice A25 n26 c27) := nb_lo ho29 lb35
  have nb43 : Nb b12 (.slice A25 n26 c27) := nb_lo ho29 lb36
  refine W.sn (fun b => .pointer (some ⟨b, 0, none⟩)) #[.int .i64 0, .slice none 0 0] 31 s41 rfl (by kernel_rfl) rfl (fun _ => by kernel_rfl) (fun b44 w45 hb46 k47 x48 s49 => ?_)
  refine F.nx ?_
  have lo50 : w.heap.size ≤ b44 := Nat.le_trans ((SG.belowR c22 s41 (fun kq e => by cases e; exact lo18))).size (Nat.le_of_eq hb46)
  have ne51 : b2 ≠ b44 := Nat.ne_of_lt (Nat.lt_of_lt_of_eq (Nat.lt_of_lt_of_le (blk_lt x6) (s41).size) hb46)
  have ne52 : b12 ≠ b44 := Nat.ne_of_lt (Nat.lt_of_lt_of_eq (Cur.lt x40) hb46)
  have nb53 : Nb b44 (.slice A25 n26 c27) := nb_hi ho32 (Nat.le_of_eq hb46)
  have x40 := Cur.below x40 k47
  have ho54 := own_kept ho32 k47
  refine W.ss (v := .agg #[.int .i64 m24, .slice A25 n26 c27]) (j := 0) (news := [.int .i64 m24, .slice A25 n26 c27]) (cs' := #[.int .i64 m24, .slice A25 n26 c27]) s49 rfl (by kernel_rfl) rfl rfl (by kernel_rfl) (by kernel_rfl) x48 (by kernel_rfl) (by kernel_rfl) (by simp) (by kernel_rfl) (by kernel_rfl) (.inr (Nat.le_trans (s41).size (Nat.le_of_eq hb46))) (fun w55 g56 x57 s58 => ?_)
  have x40 := Cur.grown x40 g56 (fun e9 => ne52 (Option.some.inj e9)) (fun j e => by cases e; exact Nat.le_trans hN lo50)
  have ho59 := own_grown ho54 g56 (fun j e1 e2 => by cases e2; exact nb53 e1.symm)
  refine F.endF [(0, .slice A n c), (2, .pointer (some ⟨b2, 0, none⟩)), (3, .int .i64 0), (4, .int .i64 0), (5, .pointer (some ⟨b12, 0, none⟩)), (6, .pointer (some ⟨b44, 0, none⟩))] (fun U60 => ?_)
  have x6 := SG.blk s58 x6 (fun e9 => ne19 (Option.some.inj e9))
  have c61 := (SG.belowR c22 s58 (fun kq e => by cases e; exact lo18))
  refine h3 _ _ ?_
  refine wp_seq_k (fun K4 h4 => ?_)
  refine M.region_sch (row := [(some b12), (some b2)]) (Sch.of [(0, false), (1, false), (2, false), (4, false), (5, false), (3, true), (6, true), (7, true), (8, false), (9, false)]) (by kernel_rfl) (by kernel_rfl) (fun _ d _ _ _ h => by cases d <;> exact h) (by kernel_rfl) (fun w62 e63 s64 => ?_)
  have ho65 := own_heap ho59 e63
  have x66 := Cur.heap x40 e63
  have x67 := (heap_same e63 x6)
  refine F.q (v := .agg #[.int .i64 m24, .slice A25 n26 c27]) (hr := (r_load2 rfl (ev_any (by kernel_rfl)) (by kernel_rfl) (by kernel_rfl) (smS (blk_cell (j := 0) x57 (by kernel_rfl)) (ne2 (fun e9 => ne52 (Option.some.inj e9).symm) (fun e9 => ne51 (Option.some.inj e9).symm))) (smS (blk_cell (j := 1) x57 (by kernel_rfl)) (ne2 (fun e9 => ne52 (Option.some.inj e9).symm) (fun e9 => ne51 (Option.some.inj e9).symm))))) (h := ?_)
  refine F.mv (v := .pointer (some ⟨b12, 0, none⟩)) (h := ?_)
  refine F.q (v := .agg #[.int .i64 m24, .slice A25 n26 c27]) (hr := (r_load2 rfl (ev_any (by kernel_rfl)) (by kernel_rfl) (by kernel_rfl) (smS (blk_cell (j := 0) x57 (by kernel_rfl)) (ne2 (fun e9 => ne52 (Option.some.inj e9).symm) (fun e9 => ne51 (Option.some.inj e9).symm))) (smS (blk_cell (j := 1) x57 (by kernel_rfl)) (ne2 (fun e9 => ne52 (Option.some.inj e9).symm) (fun e9 => ne51 (Option.some.inj e9).symm))))) (h := ?_)
  refine F.mv (v := .pointer (some ⟨b12, 0, none⟩)) (h := ?_)
  refine F.q (v := .agg #[.int .i64 m24, .slice A25 n26 c27]) (hr := (r_load2 rfl (ev_any (by kernel_rfl)) (by kernel_rfl) (by kernel_rfl) (smS (blk_cell (j := 0) x57 (by kernel_rfl)) (ne2 (fun e9 => ne52 (Option.some.inj e9).symm) (fun e9 => ne51 (Option.some.inj e9).symm))) (smS (blk_cell (j := 1) x57 (by kernel_rfl)) (ne2 (fun e9 => ne52 (Option.some.inj e9).symm) (fun e9 => ne51 (Option.some.inj e9).symm))))) (h := ?_)
  refine W.sc (vs := [.pointer (some ⟨b12, 0, none⟩), .agg #[.int .i64 m24, .slice A25 n26 c27]]) rfl rfl (by kernel_rfl) (by kernel_rfl) (by kernel_rfl) rfl (nodeOf_any b12 w.heap.size (0 + 400) m24 A25 n26 c27 _ x66 (by omega) (by omega)) ?_
  rintro e w71 ⟨x68, rfl, hx69, x73, g72⟩
  have s74 := SM.of_grown s64 g72 (.inl (by simp))
  refine ⟨_, rfl, s74, ?_⟩
  refine F.nx ?_
  have x67 := (g72.block _ (blk_lt x67) (fun e9 => ne19 (Option.some.inj e9))).trans x67
  have ho75 := own_grown ho65 g72 (fun j e1 e2 => by cases e2; exact nb43 e1.symm)
  refine W.sc (vs := [.pointer (some ⟨b12, 0, none⟩), .agg #[.int .i64 m24, .slice A25 n26 c27]]) rfl rfl (by kernel_rfl) (by kernel_rfl) (by kernel_rfl) rfl (nodeOf_any b12 w.heap.size ((0 + 400) + 6) m24 A25 n26 c27 _ x73 (by omega) (by omega)) ?_
  rintro e w79 ⟨x76, rfl, hx77, x81, g80⟩
  have s82 := SM.of_grown s74 g80 (.inl (by simp))
  refine ⟨_, rfl, s82, ?_⟩
  refine F.nx ?_
  have x67 := (g80.block _ (blk_lt x67) (fun e9 => ne19 (Option.some.inj e9))).trans x67
  have ho83 := own_grown ho75 g80 (fun j e1 e2 => by cases e2; exact nb43 e1.symm)
  refine M.ss (v := .agg #[.int .i64 m24, .slice A25 n26 c27]) (j := 0) (news := [.int .i64 m24, .slice A25 n26 c27]) (cs' := #[.int .i64 m24, .slice A25 n26 c27]) s82 rfl (by kernel_rfl) rfl rfl (by kernel_rfl) (by kernel_rfl) x67 (by kernel_rfl) (by kernel_rfl) (by simp) (by kernel_rfl) (by kernel_rfl) (.inl (by simp)) (fun w84 g85 x86 s87 => ?_)
  have x81 := Cur.grown x81 g85 (fun e9 => ne19 (Option.some.inj e9).symm) (fun j e => by cases e; exact Nat.le_trans hN lo8)
  have ho88 := own_grown ho83 g85 (fun j e1 e2 => by cases e2; exact nb42 e1.symm)
  refine F.as (v := .int .i64 x68) (h := ?_)
  refine F.as (v := .int .i64 x76) (h := ?_)
  refine F.endF [(0, .slice A n c), (2, .pointer (some ⟨b2, 0, none⟩)), (3, .int .i64 x68), (4, .int .i64 x76), (5, .pointer (some ⟨b12, 0, none⟩)), (6, .pointer (some ⟨b44, 0, none⟩))] (fun U89 => ?_)
  have x57 := SM.blk s87 x57 (ne2 (fun e9 => ne52 (Option.some.inj e9).symm) (fun e9 => ne51 (Option.some.inj e9).symm))
  have c90 := (SM.belowR c61 s87 (in2 (fun kq e => (by cases e; exact lo18)) (fun kq e => (by cases e; exact lo8))))
  refine h4 _ _ ?_
  refine wp_ret ?_
  try simp only [Exit.then]
  refine retCTT (x1 := .int .i64 x68) (x2 := .int .i64 x76) rfl (by kernel_rfl) (by kernel_rfl) (by kernel_rfl) x86 (by kernel_rfl) (by kernel_rfl) ?_
  exact ⟨_, _, _, _, _, _, _, rfl, ho88, hsm30, c90⟩

end Go.Proofs.Ytdlcldaogcbnlaa
