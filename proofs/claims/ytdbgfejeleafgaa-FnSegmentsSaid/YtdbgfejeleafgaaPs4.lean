/- What the texts behind it build on; conditions: none. -/
import Derived.Test.YtdbgfejeleafgaaPs3
namespace Go.Proofs.Ytdbgfejeleafgaa
open Go.RowKit
set_option linter.unusedVariables false
set_option linter.unusedSimpArgs false
def smP (p : Pp) : Prop := (-1000 ≤ p.id ∧ p.id ≤ 1000) ∧ (-1000 ≤ p.fr ∧ p.fr ≤ 1000) ∧ (-1000 ≤ p.to ∧ p.to ≤ 1000) ∧ (-1000 ≤ p.sz ∧ p.sz ≤ 1000)
theorem sm_mk {a b c d : Int} (h : (-1000 ≤ a ∧ a ≤ 1000) ∧ (-1000 ≤ b ∧ b ≤ 1000) ∧ (-1000 ≤ c ∧ c ≤ 1000) ∧ (-1000 ≤ d ∧ d ≤ 1000)) : smP ⟨a, b, c, d⟩ := h
theorem sm_nil : ∀ p, p ∈ ([] : List Pp) → smP p := fun p h => by cases h
theorem sm_snoc {ps : List Pp} {x : Pp} (h : ∀ p, p ∈ ps → smP p) (hx : smP x) : ∀ p, p ∈ ps ++ [x] → smP p := fun p hp => by
  rcases List.mem_append.1 hp with h1 | h1
  · exact h p h1
  · obtain rfl : p = x := by simpa using h1
    exact hx
theorem snoc_len {ps : List Pp} {x : Pp} : (ps ++ [x]).length = ps.length + 1 := by simp
theorem bnd_of {zs : List Int} {x : Int} (lo hi : Int) (hx : x ∈ zs) (h : zs.all (fun z => decide (lo ≤ z) && decide (z ≤ hi)) = true) : lo ≤ x ∧ x ≤ hi := by
  have h1 := List.all_eq_true.1 h x hx
  simpa using h1
def mostI (a b : Int) : Int := if a > b then a else b
theorem mostI_is (a b : Int) : mostI a b = a ∨ mostI a b = b := by unfold mostI; split <;> simp
def smD (k : Nat) (m : Int) (ps : List Pp) : Prop := (-1000 ≤ m ∧ m ≤ 1000) ∧ ps.length ≤ k ∧ ∀ p, p ∈ ps → smP p
set_option maxRecDepth 100000 in
set_option maxHeartbeats 8000000 in
theorem l1Most_any (a b : Int) (w : World) :
    Calls Try.prog 124 #[.int .i64 a, .int .i64 b] w fun e w' => e = .returned (.int .i64 (mostI a b)) ∧ Below w.heap.size w w' := by
 go_enter Try.func124, Try.ntmps124
 refine F.begin 10 [(0, .int .i64 a), (1, .int .i64 b)] (fun U0 => ?_)
 refine wk fun K1 h1 => ?_
 refine W.region_quiet [(0, false)] kk ?_
 refine Fa (.int .i64 0) ?_
 refine F.es ?_
 refine h1 _ _ ?_
 refine wk fun K2 h2 => ?_
 refine wk fun K3 h3 => ?_
 refine W.region_quiet [(0, false), (1, false), (2, false)] kk ?_
 refine Fv (.int .i64 a) ?_
 refine Fv (.int .i64 b) ?_
 by_cases q1 : (a : Int) > (b : Int)
 ·refine Fq (.bool true) (r_gtr (m := a) (n := b) rfl ek ek (decide_eq_true q1)) ?_
  refine F.es ?_
  refine h3 _ _ ?_
  refine wp_cond_true ek ?_
  refine wk fun K4 h4 => ?_
  refine W.region_quiet [(0, false), (1, false)] kk ?_
  refine Fv (.int .i64 a) ?_
  refine Fa (.int .i64 a) ?_
  refine F.es ?_
  refine h4 _ _ ?_
  refine wp_ret ?_
  try simp only [Exit.then]
  refine ret1 (v := .int .i64 a) rfl kk ?_
  exact ⟨by unfold mostI; rw [if_pos (by omega)], (Below.refl _ _)⟩
 refine Fq (.bool false) (r_gtr (m := a) (n := b) rfl ek ek (decide_eq_false q1)) ?_
 refine F.es ?_
 refine h3 _ _ ?_
 refine wp_cond_false ek ?_
 refine wp_skip ?_
 refine h2 _ _ ?_
 refine wk fun K5 h5 => ?_
 refine W.region_quiet [(0, false), (1, false)] kk ?_
 refine Fv (.int .i64 b) ?_
 refine Fa (.int .i64 b) ?_
 refine F.es ?_
 refine h5 _ _ ?_
 refine wp_ret ?_
 try simp only [Exit.then]
 refine ret1 (v := .int .i64 b) rfl kk ?_
 exact ⟨by unfold mostI; rw [if_neg (by omega)], (Below.refl _ _)⟩
set_option maxRecDepth 100000 in
set_option maxHeartbeats 8000000 in
theorem network_any (B N k : Nat)  (w : World) (hc : Cur w B N k) (hk : k ≤ 800000000000)  :
    Calls Try.prog 123 #[.pointer (some ⟨B, 0, none⟩)] w fun e w' => ∃ (m : Int) (A' : Option Addr) (n' c' : Nat) (ps : List Pp), e = .returned (.agg #[.int .i64 m, .slice A' n' c']) ∧ (w'.ownsRow w.heap.size 51 4 (.slice A' n' c') n' (pipesV ps) ∧ smD 10 m ps) ∧ Cur w' B N (k + 300) ∧ w.grownBy w' (some B) := by
 have hN := Cur.hN hc
 go_enter Try.func123, Try.ntmps123
 refine F.begin 97 [(0, .pointer (some ⟨B, 0, none⟩))] (fun U0 => ?_)
 refine wk fun K1 h1 => ?_
 refine W.region_plain (row := none) [(0, true)] kk ?_
 have s1 := SG.self w none
 refine W.sn (fun b => .pointer (some ⟨b, 0, none⟩)) #[.int .i64 0, .slice none 0 0] 26 s1 rfl kk rfl (fun _ => by kernel_rfl) (fun b2 w3 hb4 k5 x6 s7 => ?_)
 refine F.nx ?_
 have lo8 : w.heap.size ≤ b2 := Nat.le_trans ((SG.fr (B := B) (World.grownBy.refl _ _) s1 (fun kq e => by cases e))).size (Nat.le_of_eq hb4)
 have ne9 : B ≠ b2 := Nat.ne_of_lt (Nat.lt_of_lt_of_eq (Nat.lt_of_lt_of_le (Cur.lt hc) (s1).size) hb4)
 refine F.es ?_
 have hc := Cur.below hc (SG.below s7)
 have c10 := (SG.fr (B := B) (World.grownBy.refl _ _) s7 (fun kq e => by cases e))
 refine h1 _ _ ?_
 refine wk fun K2 h2 => ?_
 refine W.region_plain (row := (some B)) [(0, false), (1, true), (2, false), (3, false), (4, true), (5, true)] kk ?_
 have s11 := SG.self w3 (some B)
 refine Fv (.pointer (some ⟨B, 0, none⟩)) ?_
 refine Fc [.pointer (some ⟨B, 0, none⟩), .int .i64 7] (pick_any B N k 7 _ hc (by omega) (by omega)) ?_
 rintro e w15 ⟨x12, rfl, hx13, x17, g16⟩
 have s18 := SG.of_grown s11 g16 (.inl rfl)
 refine ⟨_, rfl, s18, ?_⟩
 refine F.nx ?_
 refine Fq (.int .i64 (1 + x12)) (r_add (m := 1) (n := x12) (z := 1 + x12) rfl ek ek (rfl) (by omega)) ?_
 refine Fq (.agg #[.int .i64 (1 + x12), .slice none 0 0]) (r_build rfl (vs := [(0, .int .i64 (1 + x12))]) kk kk) ?_
 refine W.sn (fun b => .pointer (some ⟨b, 0, none⟩)) #[.int .i64 0, .slice none 0 0] 26 s18 rfl kk rfl (fun _ => by kernel_rfl) (fun b19 w20 hb21 k22 x23 s24 => ?_)
 refine F.nx ?_
 have lo25 : w.heap.size ≤ b19 := Nat.le_trans ((SG.fr (B := B) c10 s18 (fun kq e => .inl (by cases e; rfl)))).size (Nat.le_of_eq hb21)
 have ne26 : B ≠ b19 := Nat.ne_of_lt (Nat.lt_of_lt_of_eq (Cur.lt x17) hb21)
 have ne27 : b2 ≠ b19 := Nat.ne_of_lt (Nat.lt_of_lt_of_eq (Nat.lt_of_lt_of_le (blk_lt x6) (s18).size) hb21)
 have x17 := Cur.below x17 k22
 refine W.ss (v := .agg #[.int .i64 (1 + x12), .slice none 0 0]) (j := 0) (news := [.int .i64 (1 + x12), .slice none 0 0]) (cs' := #[.int .i64 (1 + x12), .slice none 0 0]) s24 rfl kk rfl rfl kk kk x23 kk kk (by simp) kk kk (.inr (Nat.le_trans (s18).size (Nat.le_of_eq hb21))) (fun w28 g29 x30 s31 => ?_)
 have x17 := Cur.grown x17 g29 (fun e9 => ne26 (Option.some.inj e9)) (fun j e => by cases e; exact Nat.le_trans hN lo25)
 refine F.es ?_
 have x6 := SG.blk s31 x6 (fun e9 => ne9 (Option.some.inj e9).symm)
 have c32 := (SG.fr (B := B) c10 s31 (fun kq e => .inl (by cases e; rfl)))
 refine h2 _ _ ?_
 refine wk fun K3 h3 => ?_
 refine W.region_quiet [(0, false)] kk ?_
 refine Fa (.int .i64 0) ?_
 refine F.es ?_
 refine h3 _ _ ?_
 refine wk fun K4 h4 => ?_
 refine wk fun K5 h5 => ?_
 refine W.region_quiet [(0, false)] kk ?_
 refine Fa (.int .i64 2) ?_
 refine F.es ?_
 refine h5 _ _ ?_
 refine wp_block ?_
 have ho34 : World.ownsRow w28 w.heap.size 51 4 (.slice none 0 0) 0 (pipesV []) := World.ownsRow_nil _ _ _ _
 have nb35 : Nb B (.slice none 0 0) := nb_nil
 have nb36 : Nb b2 (.slice none 0 0) := nb_nil
 have nb37 : Nb b19 (.slice none 0 0) := nb_nil
 refine loopK (fun am0 aa0 wl0 => ∃ (i : Nat) (d0 : Int) (ps0 : List Pp) (A0_c3_1 : Option Addr) (n0_c3_1 : Nat) (c0_c3_1 : Nat) , Kn aa0 [(0, .pointer (some ⟨B, 0, none⟩)), (2, .pointer (some ⟨b2, 0, none⟩)), (3, .pointer (some ⟨b19, 0, none⟩)), (4, .int .i64 d0), (5, .int .i64 (i : Int))] 97 ∧ (am0 = 10 - i) ∧ (2 ≤ i ∧ i ≤ 9) ∧ (0 ≤ d0 ∧ d0 ≤ 4 * i) ∧ (∀ p, p ∈ ps0 → smP p) ∧ (ps0.length + 2 ≤ i) ∧ (Cur wl0 B N (k + 10 * i)) ∧ (wl0.heap[b2]? = some (.cells #[.int .i64 0, .slice none 0 0] 26 (0, 0))) ∧ (wl0.heap[b19]? = some (.cells #[.int .i64 (1 + x12), .slice A0_c3_1 n0_c3_1 c0_c3_1] 26 (0, 0))) ∧ (wl0.ownsRow w.heap.size 51 4 (.slice A0_c3_1 n0_c3_1 c0_c3_1) n0_c3_1 (pipesV ps0)) ∧ (Nb B (.slice A0_c3_1 n0_c3_1 c0_c3_1)) ∧ (Nb b2 (.slice A0_c3_1 n0_c3_1 c0_c3_1)) ∧ (Nb b19 (.slice A0_c3_1 n0_c3_1 c0_c3_1)) ∧ (w.grownBy wl0 (some B))) (10 - 2) ?_ ?_
 ·exact ⟨2, 0, [], none, 0, 0, Kn.of, rfl, (⟨by omega, by omega⟩), (⟨by omega, by omega⟩), sm_nil, (by simp), (Cur.mono x17 (by omega)), x6, x30, ho34, nb35, nb36, nb37, c32⟩
 rintro am0 aa0 wl0 K6 h6 ⟨i, d0, ps0, A0_c3_1, n0_c3_1, c0_c3_1, ⟨U0, rfl⟩, rfl, hi, hd, hps, hln, x17, x6, x30, ho0_c3_1, nb0_c3_1_B, nb0_c3_1_b2, nb0_c3_1_b19, c38⟩
 have hl09 := rd_pipes_len (own_rd ho0_c3_1)
 refine wk fun K7 h7 => ?_
 refine wk fun K8 h8 => ?_
 refine W.region_quiet [(0, false), (1, false), (2, false), (3, false)] kk ?_
 refine Fv (.int .i64 (i : Int)) ?_
 refine Fq (.pointer (some ⟨b19, 0, none⟩)) (r_field0 rfl ek kk) ?_
 refine Fl (.int .i64 (1 + x12)) (eqS (blk_cell (j := 0) x30 kk)) ?_
 by_cases q39 : ((i : Int) : Int) ≤ (1 + x12 : Int)
 ·refine Fq (.bool true) (r_leq (m := (i : Int)) (n := 1 + x12) rfl ek ek (decide_eq_true q39)) ?_
  refine F.es ?_
  refine h8 _ _ ?_
  refine wp_cond_true ek ?_
  refine wp_skip ?_
  refine h7 _ _ ?_
  refine wk fun K9 h9 => ?_
  refine wp_block ?_
  refine wk fun K10 h10 => ?_
  refine wk fun K11 h11 => ?_
  refine W.region_plain (row := (some B)) [(0, false), (1, true)] kk ?_
  have s40 := SG.self wl0 (some B)
  refine Fv (.pointer (some ⟨B, 0, none⟩)) ?_
  refine Fc [.pointer (some ⟨B, 0, none⟩), .int .i64 10] (one_any B N (k + 10 * i) 10 _ x17 (by omega) (by omega)) ?_
  rintro e w44 ⟨b41, rfl, _, x46, g45⟩
  have s47 := SG.of_grown s40 g45 (.inl rfl)
  refine ⟨_, rfl, s47, ?_⟩
  refine F.nx ?_
  have ho48 := own_grown ho0_c3_1 g45 (fun j e1 e2 => by cases e2; exact nb0_c3_1_B e1.symm)
  rcases Bool.eq_false_or_eq_true b41 with q49 | q49
  ·rw [q49]
   refine F.es ?_
   have x6 := SG.blk s47 x6 (fun e9 => ne9 (Option.some.inj e9).symm)
   have x30 := SG.blk s47 x30 (fun e9 => ne26 (Option.some.inj e9).symm)
   have c50 := (SG.fr (B := B) c38 s47 (fun kq e => .inl (by cases e; rfl)))
   refine h11 _ _ ?_
   refine wp_cond_true ek ?_
   refine wp_exit ?_
   refine h9 _ _ ?_
   refine W.region_quiet [(0, false), (1, false), (2, false)] kk ?_
   refine Fv (.int .i64 (i : Int)) ?_
   refine Fq (.int .i64 ((i + 1 : Nat) : Int)) (r_add (m := (i : Int)) (n := 1) (z := ((i + 1 : Nat) : Int)) rfl ek ek (by omega) (by omega)) ?_
   refine Fa (.int .i64 ((i + 1 : Nat) : Int)) ?_
   refine F.es ?_
   exact h6 _ _ _ (by omega : (10 - (i + 1)) < _) ⟨i + 1, d0, ps0, A0_c3_1, n0_c3_1, c0_c3_1, Kn.of, rfl, (⟨by omega, by omega⟩), (⟨by omega, by omega⟩), hps, (by omega), (Cur.mono x46 (by omega)), x6, x30, ho48, nb0_c3_1_B, nb0_c3_1_b2, nb0_c3_1_b19, c50⟩
  rw [q49]
  refine F.es ?_
  have x6 := SG.blk s47 x6 (fun e9 => ne9 (Option.some.inj e9).symm)
  have x30 := SG.blk s47 x30 (fun e9 => ne26 (Option.some.inj e9).symm)
  have c51 := (SG.fr (B := B) c38 s47 (fun kq e => .inl (by cases e; rfl)))
  refine h11 _ _ ?_
  refine wp_cond_false ek ?_
  refine wp_skip ?_
  refine h10 _ _ ?_
  refine wk fun K12 h12 => ?_
  refine W.region_plain (row := (some B)) [(0, false), (1, false), (2, false), (3, true), (4, false), (5, false)] kk ?_
  have s52 := SG.self w44 (some B)
  refine Fv (.int .i64 d0) ?_
  refine Fq (.int .i64 (d0 + 1)) (r_add (m := d0) (n := 1) (z := d0 + 1) rfl ek ek (rfl) (by omega)) ?_
  refine Fv (.pointer (some ⟨B, 0, none⟩)) ?_
  refine Fc [.pointer (some ⟨B, 0, none⟩), .int .i64 3] (pick_any B N (k + 10 * i + 2) 3 _ x46 (by omega) (by omega)) ?_
  rintro e w56 ⟨x53, rfl, hx54, x58, g57⟩
  have s59 := SG.of_grown s52 g57 (.inl rfl)
  refine ⟨_, rfl, s59, ?_⟩
  refine F.nx ?_
  have ho60 := own_grown ho48 g57 (fun j e1 e2 => by cases e2; exact nb0_c3_1_B e1.symm)
  refine Fq (.int .i64 (d0 + 1 + x53)) (r_add (m := d0 + 1) (n := x53) (z := d0 + 1 + x53) rfl ek ek (rfl) (by omega)) ?_
  refine Fa (.int .i64 (d0 + 1 + x53)) ?_
  refine F.es ?_
  have x6 := SG.blk s59 x6 (fun e9 => ne9 (Option.some.inj e9).symm)
  have x30 := SG.blk s59 x30 (fun e9 => ne26 (Option.some.inj e9).symm)
  have c61 := (SG.fr (B := B) c51 s59 (fun kq e => .inl (by cases e; rfl)))
  refine h12 _ _ ?_
  refine wk fun K13 h13 => ?_
  refine W.region_plain (row := (some B)) [(0, false), (1, false), (2, false), (3, false), (4, true), (5, false), (6, false), (7, false), (8, true), (9, false), (10, false), (11, true), (12, true)] kk ?_
  have s62 := SG.self w56 (some B)
  refine Fv (.int .i64 (d0 + 1 + x53)) ?_
  refine Fv (.pointer (some ⟨B, 0, none⟩)) ?_
  refine Fv (.int .i64 (i : Int)) ?_
  refine Fq (.int .i64 ((i : Int) - 1)) (r_sub (m := (i : Int)) (n := 1) (z := (i : Int) - 1) rfl ek ek (rfl) (by omega)) ?_
  refine Fc [.pointer (some ⟨B, 0, none⟩), .int .i64 ((i : Int) - 1)] (pick_any B N ((k + 10 * i + 2) + 2) ((i : Int) - 1) _ x58 (by omega) (by omega)) ?_
  rintro e w66 ⟨x63, rfl, hx64, x68, g67⟩
  have s69 := SG.of_grown s62 g67 (.inl rfl)
  refine ⟨_, rfl, s69, ?_⟩
  refine F.nx ?_
  have ho70 := own_grown ho60 g67 (fun j e1 e2 => by cases e2; exact nb0_c3_1_B e1.symm)
  refine Fq (.int .i64 (1 + x63)) (r_add (m := 1) (n := x63) (z := 1 + x63) rfl ek ek (rfl) (by omega)) ?_
  refine Fv (.int .i64 (i : Int)) ?_
  refine Fv (.pointer (some ⟨B, 0, none⟩)) ?_
  refine Fc [.pointer (some ⟨B, 0, none⟩), .int .i64 9] (pick_any B N (((k + 10 * i + 2) + 2) + 2) 9 _ x68 (by omega) (by omega)) ?_
  rintro e w74 ⟨x71, rfl, hx72, x76, g75⟩
  have s77 := SG.of_grown s69 g75 (.inl rfl)
  refine ⟨_, rfl, s77, ?_⟩
  refine F.nx ?_
  have ho78 := own_grown ho70 g75 (fun j e1 e2 => by cases e2; exact nb0_c3_1_B e1.symm)
  refine Fq (.int .i64 (1 + x71)) (r_add (m := 1) (n := x71) (z := 1 + x71) rfl ek ek (rfl) (by omega)) ?_
  refine Fq (.agg #[.int .i64 (d0 + 1 + x53), .int .i64 (1 + x63), .int .i64 (i : Int), .int .i64 (1 + x71)]) (r_build rfl (vs := [(0, .int .i64 (d0 + 1 + x53)), (1, .int .i64 (1 + x63)), (2, .int .i64 (i : Int)), (3, .int .i64 (1 + x71))]) kk kk) ?_
  refine W.sn (fun b => .pointer (some ⟨b, 0, none⟩)) #[.int .i64 0, .int .i64 0, .int .i64 0, .int .i64 0] 51 s77 rfl kk rfl (fun _ => by kernel_rfl) (fun b79 w80 hb81 k82 x83 s84 => ?_)
  refine F.nx ?_
  have lo85 : w.heap.size ≤ b79 := Nat.le_trans ((SG.fr (B := B) c61 s77 (fun kq e => .inl (by cases e; rfl)))).size (Nat.le_of_eq hb81)
  have ne86 : B ≠ b79 := Nat.ne_of_lt (Nat.lt_of_lt_of_eq (Cur.lt x76) hb81)
  have ne87 : b2 ≠ b79 := Nat.ne_of_lt (Nat.lt_of_lt_of_eq (Nat.lt_of_lt_of_le (blk_lt x6) (s77).size) hb81)
  have ne88 : b19 ≠ b79 := Nat.ne_of_lt (Nat.lt_of_lt_of_eq (Nat.lt_of_lt_of_le (blk_lt x30) (s77).size) hb81)
  have nb89 : Nb b79 (.slice A0_c3_1 n0_c3_1 c0_c3_1) := nb_hi ho78 (Nat.le_of_eq hb81)
  have x76 := Cur.below x76 k82
  have ho90 := own_kept ho78 k82
  refine W.ss (v := .agg #[.int .i64 (d0 + 1 + x53), .int .i64 (1 + x63), .int .i64 (i : Int), .int .i64 (1 + x71)]) (j := 0) (news := [.int .i64 (d0 + 1 + x53), .int .i64 (1 + x63), .int .i64 (i : Int), .int .i64 (1 + x71)]) (cs' := #[.int .i64 (d0 + 1 + x53), .int .i64 (1 + x63), .int .i64 (i : Int), .int .i64 (1 + x71)]) s84 rfl kk rfl rfl kk kk x83 kk kk (by simp) kk kk (.inr (Nat.le_trans (s77).size (Nat.le_of_eq hb81))) (fun w91 g92 x93 s94 => ?_)
  have x76 := Cur.grown x76 g92 (fun e9 => ne86 (Option.some.inj e9)) (fun j e => by cases e; exact Nat.le_trans hN lo85)
  have ho95 := own_grown ho90 g92 (fun j e1 e2 => by cases e2; exact nb89 e1.symm)
  refine F.es ?_
  have x6 := SG.blk s94 x6 (fun e9 => ne9 (Option.some.inj e9).symm)
  have x30 := SG.blk s94 x30 (fun e9 => ne26 (Option.some.inj e9).symm)
  have c96 := (SG.fr (B := B) c61 s94 (fun kq e => .inl (by cases e; rfl)))
  refine h13 _ _ ?_
  refine joinK (fun amj1 aaj1 wlj1 => ∃ (ja : Int) (jb : Int) , Kn aaj1 [(0, .pointer (some ⟨B, 0, none⟩)), (2, .pointer (some ⟨b2, 0, none⟩)), (3, .pointer (some ⟨b19, 0, none⟩)), (4, .int .i64 (d0 + 1 + x53)), (5, .int .i64 (i : Int)), (6, .pointer (some ⟨b79, 0, none⟩)), (16, .bool true), (20, .bool false)] 97 ∧ (amj1 = 0) ∧ (1 ≤ ja ∧ ja ≤ 9) ∧ (1 ≤ jb ∧ jb ≤ 9) ∧ (Cur wlj1 B N ((((((k + 10 * i + 2) + 2) + 2) + 2) + 2))) ∧ (wlj1.heap[b2]? = some (.cells #[.int .i64 0, .slice none 0 0] 26 (0, 0))) ∧ (wlj1.heap[b19]? = some (.cells #[.int .i64 (1 + x12), .slice A0_c3_1 n0_c3_1 c0_c3_1] 26 (0, 0))) ∧ (wlj1.heap[b79]? = some (.cells #[.int .i64 (d0 + 1 + x53), .int .i64 ja, .int .i64 jb, .int .i64 (1 + x71)] 51 (0, 0))) ∧ (wlj1.ownsRow w.heap.size 51 4 (.slice A0_c3_1 n0_c3_1 c0_c3_1) n0_c3_1 (pipesV ps0)) ∧ (w.grownBy wlj1 (some B))) ?_ ?_
  ·rintro amj1 aaj1 wlj1 ⟨ja, jb, ⟨Uj1, rfl⟩, rfl, hja, hjb, x76, x6, x30, x93, hoj1_c3_1, c97⟩
   refine M.region_plain (row := [(Value.ownBlock (.slice A0_c3_1 n0_c3_1 c0_c3_1)), (some b19)]) [(0, false), (1, true), (2, false), (3, true), (4, true), (5, false), (6, true)] kk ?_
   have s98 := SM.self wlj1 [(Value.ownBlock (.slice A0_c3_1 n0_c3_1 c0_c3_1)), (some b19)]
   refine Fq (.pointer (some ⟨b19, 1, none⟩)) (r_field (k := 1) rfl ek kk) ?_
   refine W.slq (v := .slice A0_c3_1 n0_c3_1 c0_c3_1) s98 rfl (r_load rfl kk kk (eqS (blk_cell (j := 1) x30 kk))) kk rfl ?_
   refine F.nx ?_
   refine Fq (.agg #[.int .i64 (d0 + 1 + x53), .int .i64 ja, .int .i64 jb, .int .i64 (1 + x71)]) (r_load4 rfl ek kk kk (smS (blk_cell (j := 0) x93 kk) (ne2 nb89 (fun e9 => ne88 (Option.some.inj e9).symm))) (smS (blk_cell (j := 1) x93 kk) (ne2 nb89 (fun e9 => ne88 (Option.some.inj e9).symm))) (smS (blk_cell (j := 2) x93 kk) (ne2 nb89 (fun e9 => ne88 (Option.some.inj e9).symm))) (smS (blk_cell (j := 3) x93 kk) (ne2 nb89 (fun e9 => ne88 (Option.some.inj e9).symm)))) ?_
   refine M.sn (fun b => .slice (some ⟨b, 0, none⟩) 1 1) #[.int .i64 (d0 + 1 + x53), .int .i64 ja, .int .i64 jb, .int .i64 (1 + x71)] 51 s98 rfl kk rfl (fun _ => by kernel_rfl) (fun b99 w100 hb101 k102 x103 s104 => ?_)
   refine F.nx ?_
   have lo105 : w.heap.size ≤ b99 := Nat.le_trans ((SM.fr (B := B) c97 s98 (in2 (fun kq e => .inr (World.ownsRow.lt hoj1_c3_1 kq e).1) (fun kq e => .inr (by cases e; exact lo25))))).size (Nat.le_of_eq hb101)
   have x30 := (k102.block _ (blk_lt x30)).trans x30
   have ho111 := own_kept hoj1_c3_1 k102
   refine M.sap (e := 51) (size := 4) (base := w.heap.size) (m := 1) (v := .slice A0_c3_1 n0_c3_1 c0_c3_1) (c := 1) s104 rfl rfl rfl rfl kk kk kk ho111 x103 kk kk (by omega) (by omega) (by have := ((SM.fr (B := B) c97 s104 (in2 (fun kq e => .inr (World.ownsRow.lt hoj1_c3_1 kq e).1) (fun kq e => .inr (by cases e; exact lo25))))).size; omega) (.inl (by simp)) (fun g112 cap113 w114 ho115 hg116 hat117 hlt118 s119 => ?_)
   refine F.nx ?_
   have nb120 : Nb B (.slice (some ⟨g112, 0, none⟩) (n0_c3_1 + 1) cap113) := nb_app nb0_c3_1_B (Nat.lt_of_lt_of_le (Cur.lt x76) (s104).size) hat117
   have nb121 : Nb b2 (.slice (some ⟨g112, 0, none⟩) (n0_c3_1 + 1) cap113) := nb_app nb0_c3_1_b2 (Nat.lt_of_lt_of_le (blk_lt x6) (s104).size) hat117
   have nb122 : Nb b19 (.slice (some ⟨g112, 0, none⟩) (n0_c3_1 + 1) cap113) := nb_app nb0_c3_1_b19 (blk_lt x30) hat117
   have x30 := (hg116.block _ (blk_lt x30) nb0_c3_1_b19).trans x30
   have ho115 := own_snocP (x := (Pp.mk (d0 + 1 + x53) ja jb (1 + x71))) ho115
   refine Fq (.pointer (some ⟨b19, 1, none⟩)) (r_field (k := 1) rfl ek kk) ?_
   refine M.ss (v := .slice (some ⟨g112, 0, none⟩) (n0_c3_1 + 1) cap113) (j := 1) (news := [.slice (some ⟨g112, 0, none⟩) (n0_c3_1 + 1) cap113]) (cs' := #[.int .i64 (1 + x12), .slice (some ⟨g112, 0, none⟩) (n0_c3_1 + 1) cap113]) s119 rfl kk rfl rfl kk kk x30 kk kk (by simp) kk kk (.inl (by simp)) (fun w125 g126 x127 s128 => ?_)
   have ho129 := own_grown ho115 g126 (fun j e1 e2 => by cases e2; exact nb122 e1.symm)
   refine F.es ?_
   have x76 := Cur.sm x76 s128 (ne2 nb0_c3_1_B (fun e9 => ne26 (Option.some.inj e9))) (in2 (fun j e => Nat.le_trans hN (World.ownsRow.lt hoj1_c3_1 j e).1) (fun j e => by cases e; exact Nat.le_trans hN lo25))
   have x6 := SM.blk s128 x6 (ne2 nb0_c3_1_b2 (fun e9 => ne27 (Option.some.inj e9)))
   have x93 := SM.blk s128 x93 (ne2 nb89 (fun e9 => ne88 (Option.some.inj e9).symm))
   have c130 := (SM.fr (B := B) c97 s128 (in2 (fun kq e => .inr (World.ownsRow.lt hoj1_c3_1 kq e).1) (fun kq e => .inr (by cases e; exact lo25))))
   refine h9 _ _ ?_
   refine W.region_quiet [(0, false), (1, false), (2, false)] kk ?_
   refine Fv (.int .i64 (i : Int)) ?_
   refine Fq (.int .i64 ((i + 1 : Nat) : Int)) (r_add (m := (i : Int)) (n := 1) (z := ((i + 1 : Nat) : Int)) rfl ek ek (by omega) (by omega)) ?_
   refine Fa (.int .i64 ((i + 1 : Nat) : Int)) ?_
   refine F.es ?_
   exact h6 _ _ _ (by omega : (10 - (i + 1)) < _) ⟨i + 1, d0 + 1 + x53, (ps0 ++ [(Pp.mk (d0 + 1 + x53) ja jb (1 + x71))]), (some ⟨g112, 0, none⟩), (n0_c3_1 + 1), cap113, Kn.of, rfl, (⟨by omega, by omega⟩), (⟨by omega, by omega⟩), (sm_snoc hps (sm_mk (by omega))), (by rw [snoc_len]; omega), (Cur.mono x76 (by omega)), x6, x127, ho129, nb120, nb121, nb122, c130⟩
  intro K14 h14
  refine wk fun K15 h15 => ?_
  refine W.region_plain (row := (some B)) [(0, false), (1, true)] kk ?_
  have s131 := SG.self w91 (some B)
  refine Fv (.pointer (some ⟨B, 0, none⟩)) ?_
  refine Fc [.pointer (some ⟨B, 0, none⟩), .int .i64 2] (one_any B N ((((k + 10 * i + 2) + 2) + 2) + 2) 2 _ x76 (by omega) (by omega)) ?_
  rintro e w135 ⟨b132, rfl, _, x137, g136⟩
  have s138 := SG.of_grown s131 g136 (.inl rfl)
  refine ⟨_, rfl, s138, ?_⟩
  refine F.nx ?_
  have ho139 := own_grown ho95 g136 (fun j e1 e2 => by cases e2; exact nb0_c3_1_B e1.symm)
  rcases Bool.eq_false_or_eq_true b132 with q140 | q140
  ·rw [q140]
   refine F.es ?_
   have x6 := SG.blk s138 x6 (fun e9 => ne9 (Option.some.inj e9).symm)
   have x30 := SG.blk s138 x30 (fun e9 => ne26 (Option.some.inj e9).symm)
   have x93 := SG.blk s138 x93 (fun e9 => ne86 (Option.some.inj e9).symm)
   have c141 := (SG.fr (B := B) c96 s138 (fun kq e => .inl (by cases e; rfl)))
   refine h15 _ _ ?_
   refine wp_cond_true ek ?_
   refine W.region_plain (row := (some b79)) [(0, false), (1, false), (2, true), (3, false), (4, true), (5, false), (6, true), (7, false), (8, true)] kk ?_
   have s142 := SG.self w135 (some b79)
   refine Fv (.int .i64 (d0 + 1 + x53)) ?_
   refine Fq (.pointer (some ⟨b79, 2, none⟩)) (r_field (k := 2) rfl ek kk) ?_
   refine W.slq (v := .int .i64 (i : Int)) s142 rfl (r_load rfl kk kk (eqS (blk_cell (j := 2) x93 kk))) kk rfl ?_
   refine F.nx ?_
   refine Fq (.pointer (some ⟨b79, 1, none⟩)) (r_field (k := 1) rfl ek kk) ?_
   refine W.slq (v := .int .i64 (1 + x63)) s142 rfl (r_load rfl kk kk (eqS (blk_cell (j := 1) x93 kk))) kk rfl ?_
   refine F.nx ?_
   refine Fq (.pointer (some ⟨b79, 3, none⟩)) (r_field (k := 3) rfl ek kk) ?_
   refine W.slq (v := .int .i64 (1 + x71)) s142 rfl (r_load rfl kk kk (eqS (blk_cell (j := 3) x93 kk))) kk rfl ?_
   refine F.nx ?_
   refine Fq (.agg #[.int .i64 (d0 + 1 + x53), .int .i64 (i : Int), .int .i64 (1 + x63), .int .i64 (1 + x71)]) (r_build rfl (vs := [(0, .int .i64 (d0 + 1 + x53)), (1, .int .i64 (i : Int)), (2, .int .i64 (1 + x63)), (3, .int .i64 (1 + x71))]) kk kk) ?_
   refine W.ss (v := .agg #[.int .i64 (d0 + 1 + x53), .int .i64 (i : Int), .int .i64 (1 + x63), .int .i64 (1 + x71)]) (j := 0) (news := [.int .i64 (d0 + 1 + x53), .int .i64 (i : Int), .int .i64 (1 + x63), .int .i64 (1 + x71)]) (cs' := #[.int .i64 (d0 + 1 + x53), .int .i64 (i : Int), .int .i64 (1 + x63), .int .i64 (1 + x71)]) s142 rfl kk rfl rfl kk kk x93 kk kk (by simp) kk kk (.inl rfl) (fun w143 g144 x145 s146 => ?_)
   have ho147 := own_grown ho139 g144 (fun j e1 e2 => by cases e2; exact nb89 e1.symm)
   refine F.es ?_
   have x137 := Cur.grown x137 s146 (fun e9 => ne86 (Option.some.inj e9)) (fun j e => by cases e; exact Nat.le_trans hN lo85)
   have x6 := SG.blk s146 x6 (fun e9 => ne87 (Option.some.inj e9))
   have x30 := SG.blk s146 x30 (fun e9 => ne88 (Option.some.inj e9))
   have c148 := (SG.fr (B := B) c141 s146 (fun kq e => .inr (by cases e; exact lo85)))
   exact h14 _ _ _ ⟨(i : Int), 1 + x63, Kn.of, rfl, (⟨by omega, by omega⟩), (⟨by omega, by omega⟩), (Cur.mono x137 (by omega)), x6, x30, x145, ho147, c148⟩
  rw [q140]
  refine F.es ?_
  have x6 := SG.blk s138 x6 (fun e9 => ne9 (Option.some.inj e9).symm)
  have x30 := SG.blk s138 x30 (fun e9 => ne26 (Option.some.inj e9).symm)
  have x93 := SG.blk s138 x93 (fun e9 => ne86 (Option.some.inj e9).symm)
  have c149 := (SG.fr (B := B) c96 s138 (fun kq e => .inl (by cases e; rfl)))
  refine h15 _ _ ?_
  refine wp_cond_false ek ?_
  refine wp_skip ?_
  exact h14 _ _ _ ⟨1 + x63, (i : Int), Kn.of, rfl, (⟨by omega, by omega⟩), (⟨by omega, by omega⟩), (Cur.mono x137 (by omega)), x6, x30, x93, ho139, c149⟩
 refine Fq (.bool false) (r_leq (m := (i : Int)) (n := 1 + x12) rfl ek ek (decide_eq_false q39)) ?_
 refine F.es ?_
 refine h8 _ _ ?_
 refine wp_cond_false ek ?_
 refine wp_exit ?_
 refine h4 _ _ ?_
 refine wk fun K16 h16 => ?_
 refine wk fun K17 h17 => ?_
 refine W.region_plain (row := (some B)) [(0, false), (1, true), (2, false)] kk ?_
 have s150 := SG.self wl0 (some B)
 refine Fv (.pointer (some ⟨B, 0, none⟩)) ?_
 refine Fc [.pointer (some ⟨B, 0, none⟩), .int .i64 4] (pick_any B N (k + 10 * i) 4 _ x17 (by omega) (by omega)) ?_
 rintro e w154 ⟨x151, rfl, hx152, x156, g155⟩
 have s157 := SG.of_grown s150 g155 (.inl rfl)
 refine ⟨_, rfl, s157, ?_⟩
 refine F.nx ?_
 have ho158 := own_grown ho0_c3_1 g155 (fun j e1 e2 => by cases e2; exact nb0_c3_1_B e1.symm)
 refine Fa (.int .i64 x151) ?_
 refine F.es ?_
 have x6 := SG.blk s157 x6 (fun e9 => ne9 (Option.some.inj e9).symm)
 have x30 := SG.blk s157 x30 (fun e9 => ne26 (Option.some.inj e9).symm)
 have c159 := (SG.fr (B := B) c38 s157 (fun kq e => .inl (by cases e; rfl)))
 refine h17 _ _ ?_
 refine wp_block ?_
 refine loopK (fun am1 aa1 wl1 => ∃ (z : Int) (d1 : Int) (ps1 : List Pp) (A1_c3_1 : Option Addr) (n1_c3_1 : Nat) (c1_c3_1 : Nat) , Kn aa1 [(0, .pointer (some ⟨B, 0, none⟩)), (2, .pointer (some ⟨b2, 0, none⟩)), (3, .pointer (some ⟨b19, 0, none⟩)), (4, .int .i64 d1), (5, .int .i64 (i : Int)), (7, .int .i64 z), (16, .bool false)] 97 ∧ (am1 = z.toNat) ∧ (z ≤ 3) ∧ (0 ≤ d1 ∧ d1 ≤ 40 + 4 * (4 - z)) ∧ (∀ p, p ∈ ps1 → smP p) ∧ (ps1.length ≤ 10) ∧ (Cur wl1 B N (k + 200 + 10 * (4 - z.toNat))) ∧ (wl1.heap[b2]? = some (.cells #[.int .i64 0, .slice none 0 0] 26 (0, 0))) ∧ (wl1.heap[b19]? = some (.cells #[.int .i64 (1 + x12), .slice A1_c3_1 n1_c3_1 c1_c3_1] 26 (0, 0))) ∧ (wl1.ownsRow w.heap.size 51 4 (.slice A1_c3_1 n1_c3_1 c1_c3_1) n1_c3_1 (pipesV ps1)) ∧ (Nb B (.slice A1_c3_1 n1_c3_1 c1_c3_1)) ∧ (Nb b2 (.slice A1_c3_1 n1_c3_1 c1_c3_1)) ∧ (Nb b19 (.slice A1_c3_1 n1_c3_1 c1_c3_1)) ∧ (w.grownBy wl1 (some B))) (x151.toNat) ?_ ?_
 ·exact ⟨x151, d0, ps0, A0_c3_1, n0_c3_1, c0_c3_1, Kn.of, rfl, (by omega), (⟨by omega, by omega⟩), hps, (by omega), (Cur.mono x156 (by omega)), x6, x30, ho158, nb0_c3_1_B, nb0_c3_1_b2, nb0_c3_1_b19, c159⟩
 rintro am1 aa1 wl1 K18 h18 ⟨z, d1, ps1, A1_c3_1, n1_c3_1, c1_c3_1, ⟨U1, rfl⟩, rfl, hz, hd1, hps1, hln1, x156, x6, x30, ho1_c3_1, nb1_c3_1_B, nb1_c3_1_b2, nb1_c3_1_b19, c160⟩
 have hl19 := rd_pipes_len (own_rd ho1_c3_1)
 refine wk fun K19 h19 => ?_
 refine wk fun K20 h20 => ?_
 refine W.region_quiet [(0, false), (1, false), (2, false), (3, false), (4, false), (5, false), (6, false), (7, false), (8, false), (9, false), (10, false), (11, false), (12, false)] kk ?_
 refine Fv (.int .i64 z) ?_
 by_cases q161 : (z : Int) > (0 : Int)
 ·refine Fq (.bool true) (r_gtr (m := z) (n := 0) rfl ek ek (decide_eq_true q161)) ?_
  refine Fv (.bool true) ?_
  refine Fq (.pointer (some ⟨b19, 0, none⟩)) (r_field0 rfl ek kk) ?_
  refine Fl (.int .i64 (1 + x12)) (eqS (blk_cell (j := 0) x30 kk)) ?_
  by_cases q162 : (1 + x12 : Int) > (1 : Int)
  ·refine Fq (.bool true) (r_gtr (m := 1 + x12) (n := 1) rfl ek ek (decide_eq_true q162)) ?_
   refine Fq (.bool true) (r_pick (b := true) rfl ek ek) ?_
   refine Fv (.bool true) ?_
   refine Fq (.pointer (some ⟨b19, 1, none⟩)) (r_field (k := 1) rfl ek kk) ?_
   refine Fl (.slice A1_c3_1 n1_c3_1 c1_c3_1) (eqS (blk_cell (j := 1) x30 kk)) ?_
   refine Fq (.int .i64 (n1_c3_1 : Int)) (r_len (A := A1_c3_1) (n := n1_c3_1) (c := c1_c3_1) rfl ek kk) ?_
   by_cases q163 : ((n1_c3_1 : Int) : Int) < (10 : Int)
   ·refine Fq (.bool true) (r_lss (m := (n1_c3_1 : Int)) (n := 10) rfl ek ek (decide_eq_true q163)) ?_
    refine Fq (.bool true) (r_pick (b := true) rfl ek ek) ?_
    refine F.es ?_
    refine h20 _ _ ?_
    refine wp_cond_true ek ?_
    refine wp_skip ?_
    refine h19 _ _ ?_
    refine wk fun K21 h21 => ?_
    refine wp_block ?_
    refine wk fun K22 h22 => ?_
    refine W.region_plain (row := (some B)) [(0, false), (1, false), (2, false), (3, true), (4, false), (5, false)] kk ?_
    have s164 := SG.self wl1 (some B)
    refine Fv (.int .i64 d1) ?_
    refine Fq (.int .i64 (d1 + 1)) (r_add (m := d1) (n := 1) (z := d1 + 1) rfl ek ek (rfl) (by omega)) ?_
    refine Fv (.pointer (some ⟨B, 0, none⟩)) ?_
    refine Fc [.pointer (some ⟨B, 0, none⟩), .int .i64 3] (pick_any B N (k + 200 + 10 * (4 - z.toNat)) 3 _ x156 (by omega) (by omega)) ?_
    rintro e w168 ⟨x165, rfl, hx166, x170, g169⟩
    have s171 := SG.of_grown s164 g169 (.inl rfl)
    refine ⟨_, rfl, s171, ?_⟩
    refine F.nx ?_
    have ho172 := own_grown ho1_c3_1 g169 (fun j e1 e2 => by cases e2; exact nb1_c3_1_B e1.symm)
    refine Fq (.int .i64 (d1 + 1 + x165)) (r_add (m := d1 + 1) (n := x165) (z := d1 + 1 + x165) rfl ek ek (rfl) (by omega)) ?_
    refine Fa (.int .i64 (d1 + 1 + x165)) ?_
    refine F.es ?_
    have x6 := SG.blk s171 x6 (fun e9 => ne9 (Option.some.inj e9).symm)
    have x30 := SG.blk s171 x30 (fun e9 => ne26 (Option.some.inj e9).symm)
    have c173 := (SG.fr (B := B) c160 s171 (fun kq e => .inl (by cases e; rfl)))
    refine h22 _ _ ?_
    refine wk fun K23 h23 => ?_
    refine W.region_plain (row := (some B)) [(0, false), (1, false), (2, false), (3, true), (4, false), (5, false)] kk ?_
    have s174 := SG.self w168 (some B)
    refine Fv (.pointer (some ⟨B, 0, none⟩)) ?_
    refine Fq (.pointer (some ⟨b19, 0, none⟩)) (r_field0 rfl ek kk) ?_
    refine Fl (.int .i64 (1 + x12)) (sgS (blk_cell (j := 0) x30 kk) (fun e9 => ne26 (Option.some.inj e9).symm)) ?_
    refine Fc [.pointer (some ⟨B, 0, none⟩), .int .i64 (1 + x12)] (pick_any B N (k + 200 + 10 * (4 - z.toNat) + 2) (1 + x12) _ x170 (by omega) (by omega)) ?_
    rintro e w178 ⟨x175, rfl, hx176, x180, g179⟩
    have s181 := SG.of_grown s174 g179 (.inl rfl)
    refine ⟨_, rfl, s181, ?_⟩
    refine F.nx ?_
    have ho182 := own_grown ho172 g179 (fun j e1 e2 => by cases e2; exact nb1_c3_1_B e1.symm)
    refine Fq (.int .i64 (1 + x175)) (r_add (m := 1) (n := x175) (z := 1 + x175) rfl ek ek (rfl) (by omega)) ?_
    refine Fa (.int .i64 (1 + x175)) ?_
    refine F.es ?_
    have x6 := SG.blk s181 x6 (fun e9 => ne9 (Option.some.inj e9).symm)
    have x30 := SG.blk s181 x30 (fun e9 => ne26 (Option.some.inj e9).symm)
    have c183 := (SG.fr (B := B) c173 s181 (fun kq e => .inl (by cases e; rfl)))
    refine h23 _ _ ?_
    refine M.region_sch (row := [(some B), (Value.ownBlock (.slice A1_c3_1 n1_c3_1 c1_c3_1)), (some b19)]) (Sch.app [(0, false), (2, false), (3, false), (4, false), (5, false), (9, false)] (.br3 1 6 10 (Sch.app [] (.br 6 10 (Sch.of [(7, false), (8, false), (10, true), (11, false), (12, false), (13, true), (14, true), (15, false), (16, true)]) (Sch.of [(11, false), (6, true), (7, false), (8, false), (12, false), (13, true), (14, true), (15, false), (16, true)]))) (Sch.app [(7, false), (8, false)] (.br 1 10 (Sch.of [(10, true), (11, false), (12, false), (13, true), (14, true), (15, false), (16, true)]) (Sch.app [(11, false), (12, false)] (.br 1 13 (Sch.of [(13, true), (14, true), (15, false), (16, true)]) (Sch.of [(1, true), (14, true), (15, false), (16, true)]))))) (Sch.app [(11, false)] (.br 1 6 (Sch.of [(6, true), (7, false), (8, false), (12, false), (13, true), (14, true), (15, false), (16, true)]) (Sch.app [(7, false), (8, false), (12, false)] (.br 1 13 (Sch.of [(13, true), (14, true), (15, false), (16, true)]) (Sch.of [(1, true), (14, true), (15, false), (16, true)]))))))) kk kk (fun _ d _ _ _ h => by cases d <;> exact h) kk (fun w184 e185 s186 => ?_)
    have ho187 := own_heap ho182 e185
    have x188 := Cur.heap x180 e185
    have x189 := (heap_same e185 x30)
    refine Fq (.pointer (some ⟨b19, 1, none⟩)) (r_field (k := 1) rfl ek kk) ?_
    refine Fv (.int .i64 (d1 + 1 + x165)) ?_
    refine Fv (.int .i64 (1 + x175)) ?_
    refine Fv (.int .i64 (1 + x175)) ?_
    refine Fq (.pointer (some ⟨b19, 0, none⟩)) (r_field0 rfl ek kk) ?_
    refine Fv (.pointer (some ⟨B, 0, none⟩)) ?_
    refine W.sbr3 ?_ ?_ ?_
    ·refine W.slq (v := .slice A1_c3_1 n1_c3_1 c1_c3_1) s186 rfl (r_load rfl kk kk (eqS (blk_cell (j := 1) x189 kk))) kk rfl ?_
     refine F.nx ?_
     refine W.sbr ?_ ?_
     ·refine W.slq (v := .int .i64 (1 + x12)) s186 rfl (r_load rfl kk kk (eqS (blk_cell (j := 0) x189 kk))) kk rfl ?_
      refine F.nx ?_
      have hr1 := Int.emod_nonneg (1 + x175) (show (1 + x12) ≠ 0 by omega)
      have hr2 := Int.emod_lt_of_pos (1 + x175) (show 0 < (1 + x12) by omega)
      refine Fq (.int .i64 ((1 + x175) % (1 + x12))) (r_remK (k := .i64) (m := 1 + x175) (n := 1 + x12) (z := ((1 + x175) % (1 + x12))) rfl ek ek (by omega) (Int.tmod_eq_emod_of_nonneg (by omega))) ?_
      refine Fq (.int .i64 (1 + ((1 + x175) % (1 + x12)))) (r_add (m := 1) (n := ((1 + x175) % (1 + x12))) (z := 1 + ((1 + x175) % (1 + x12))) rfl ek ek (rfl) (by omega)) ?_
      refine Fc [.pointer (some ⟨B, 0, none⟩), .int .i64 9] (pick_any B N ((k + 200 + 10 * (4 - z.toNat) + 2) + 2) 9 _ x188 (by omega) (by omega)) ?_
      rintro e w193 ⟨x190, rfl, hx191, x195, g194⟩
      have s196 := SM.of_grown s186 g194 (.inl (by simp))
      refine ⟨_, rfl, s196, ?_⟩
      refine F.nx ?_
      have x189 := (g194.block _ (blk_lt x189) (fun e9 => ne26 (Option.some.inj e9).symm)).trans x189
      have ho197 := own_grown ho187 g194 (fun j e1 e2 => by cases e2; exact nb1_c3_1_B e1.symm)
      refine Fq (.int .i64 (1 + x190)) (r_add (m := 1) (n := x190) (z := 1 + x190) rfl ek ek (rfl) (by omega)) ?_
      refine Fq (.agg #[.int .i64 (d1 + 1 + x165), .int .i64 (1 + x175), .int .i64 (1 + ((1 + x175) % (1 + x12))), .int .i64 (1 + x190)]) (r_build rfl (vs := [(0, .int .i64 (d1 + 1 + x165)), (1, .int .i64 (1 + x175)), (2, .int .i64 (1 + ((1 + x175) % (1 + x12)))), (3, .int .i64 (1 + x190))]) kk kk) ?_
      refine M.sn (fun b => .slice (some ⟨b, 0, none⟩) 1 1) #[.int .i64 (d1 + 1 + x165), .int .i64 (1 + x175), .int .i64 (1 + ((1 + x175) % (1 + x12))), .int .i64 (1 + x190)] 51 s196 rfl kk rfl (fun _ => by kernel_rfl) (fun b198 w199 hb200 k201 x202 s203 => ?_)
      refine F.nx ?_
      have lo204 : w.heap.size ≤ b198 := Nat.le_trans ((SM.fr (B := B) c183 s196 (in3 (fun kq e => .inl (by cases e; rfl)) (fun kq e => .inr (World.ownsRow.lt ho182 kq e).1) (fun kq e => .inr (by cases e; exact lo25))))).size (Nat.le_of_eq hb200)
      have x195 := Cur.below x195 k201
      have x189 := (k201.block _ (blk_lt x189)).trans x189
      have ho209 := own_kept ho197 k201
      refine M.sap (e := 51) (size := 4) (base := w.heap.size) (m := 1) (v := .slice A1_c3_1 n1_c3_1 c1_c3_1) (c := 1) s203 rfl rfl rfl rfl kk kk kk ho209 x202 kk kk (by omega) (by omega) (by have := ((SM.fr (B := B) c183 s203 (in3 (fun kq e => .inl (by cases e; rfl)) (fun kq e => .inr (World.ownsRow.lt ho182 kq e).1) (fun kq e => .inr (by cases e; exact lo25))))).size; omega) (.inl (by simp)) (fun g210 cap211 w212 ho213 hg214 hat215 hlt216 s217 => ?_)
      refine F.nx ?_
      have nb218 : Nb B (.slice (some ⟨g210, 0, none⟩) (n1_c3_1 + 1) cap211) := nb_app nb1_c3_1_B (Cur.lt x195) hat215
      have x195 := Cur.grown x195 hg214 nb1_c3_1_B (fun j e => Nat.le_trans hN (World.ownsRow.lt ho209 j e).1)
      have nb219 : Nb b2 (.slice (some ⟨g210, 0, none⟩) (n1_c3_1 + 1) cap211) := nb_app nb1_c3_1_b2 (Nat.lt_of_lt_of_le (blk_lt x6) (s203).size) hat215
      have nb220 : Nb b19 (.slice (some ⟨g210, 0, none⟩) (n1_c3_1 + 1) cap211) := nb_app nb1_c3_1_b19 (blk_lt x189) hat215
      have x189 := (hg214.block _ (blk_lt x189) nb1_c3_1_b19).trans x189
      have ho213 := own_snocP (x := (Pp.mk (d1 + 1 + x165) (1 + x175) (1 + ((1 + x175) % (1 + x12))) (1 + x190))) ho213
      refine Fq (.pointer (some ⟨b19, 1, none⟩)) (r_field (k := 1) rfl ek kk) ?_
      refine M.ss (v := .slice (some ⟨g210, 0, none⟩) (n1_c3_1 + 1) cap211) (j := 1) (news := [.slice (some ⟨g210, 0, none⟩) (n1_c3_1 + 1) cap211]) (cs' := #[.int .i64 (1 + x12), .slice (some ⟨g210, 0, none⟩) (n1_c3_1 + 1) cap211]) s217 rfl kk rfl rfl kk kk x189 kk kk (by simp) kk kk (.inl (by simp)) (fun w222 g223 x224 s225 => ?_)
      have x195 := Cur.grown x195 g223 (fun e9 => ne26 (Option.some.inj e9)) (fun j e => by cases e; exact Nat.le_trans hN lo25)
      have ho226 := own_grown ho213 g223 (fun j e1 e2 => by cases e2; exact nb220 e1.symm)
      refine F.es ?_
      have x6 := SM.blk s225 x6 (ne3 (fun e9 => ne9 (Option.some.inj e9).symm) nb1_c3_1_b2 (fun e9 => ne27 (Option.some.inj e9)))
      have c227 := (SM.fr (B := B) c183 s225 (in3 (fun kq e => .inl (by cases e; rfl)) (fun kq e => .inr (World.ownsRow.lt ho182 kq e).1) (fun kq e => .inr (by cases e; exact lo25))))
      refine h21 _ _ ?_
      refine W.region_quiet [(0, false), (1, false), (2, false)] kk ?_
      refine Fv (.int .i64 z) ?_
      refine Fq (.int .i64 (z - 1)) (r_sub (m := z) (n := 1) (z := z - 1) rfl ek ek (rfl) (by omega)) ?_
      refine Fa (.int .i64 (z - 1)) ?_
      refine F.es ?_
      exact h18 _ _ _ (by omega : ((z - 1).toNat) < _) ⟨z - 1, d1 + 1 + x165, (ps1 ++ [(Pp.mk (d1 + 1 + x165) (1 + x175) (1 + ((1 + x175) % (1 + x12))) (1 + x190))]), (some ⟨g210, 0, none⟩), (n1_c3_1 + 1), cap211, Kn.of, rfl, (by omega), (⟨by omega, by omega⟩), (sm_snoc hps1 (sm_mk (by omega))), (by rw [snoc_len]; omega), (Cur.mono x195 (by omega)), x6, x224, ho226, nb218, nb219, nb220, c227⟩
     refine Fc [.pointer (some ⟨B, 0, none⟩), .int .i64 9] (pick_any B N ((k + 200 + 10 * (4 - z.toNat) + 2) + 2) 9 _ x188 (by omega) (by omega)) ?_
     rintro e w231 ⟨x228, rfl, hx229, x233, g232⟩
     have s234 := SM.of_grown s186 g232 (.inl (by simp))
     refine ⟨_, rfl, s234, ?_⟩
     refine F.nx ?_
     have x189 := (g232.block _ (blk_lt x189) (fun e9 => ne26 (Option.some.inj e9).symm)).trans x189
     have ho235 := own_grown ho187 g232 (fun j e1 e2 => by cases e2; exact nb1_c3_1_B e1.symm)
     refine Fq (.int .i64 (1 + x228)) (r_add (m := 1) (n := x228) (z := 1 + x228) rfl ek ek (rfl) (by omega)) ?_
     refine W.slq (v := .int .i64 (1 + x12)) s234 rfl (r_load rfl kk kk (eqS (blk_cell (j := 0) x189 kk))) kk rfl ?_
     refine F.nx ?_
     have hr1 := Int.emod_nonneg (1 + x175) (show (1 + x12) ≠ 0 by omega)
     have hr2 := Int.emod_lt_of_pos (1 + x175) (show 0 < (1 + x12) by omega)
     refine Fq (.int .i64 ((1 + x175) % (1 + x12))) (r_remK (k := .i64) (m := 1 + x175) (n := 1 + x12) (z := ((1 + x175) % (1 + x12))) rfl ek ek (by omega) (Int.tmod_eq_emod_of_nonneg (by omega))) ?_
     refine Fq (.int .i64 (1 + ((1 + x175) % (1 + x12)))) (r_add (m := 1) (n := ((1 + x175) % (1 + x12))) (z := 1 + ((1 + x175) % (1 + x12))) rfl ek ek (rfl) (by omega)) ?_
     refine Fq (.agg #[.int .i64 (d1 + 1 + x165), .int .i64 (1 + x175), .int .i64 (1 + ((1 + x175) % (1 + x12))), .int .i64 (1 + x228)]) (r_build rfl (vs := [(0, .int .i64 (d1 + 1 + x165)), (1, .int .i64 (1 + x175)), (2, .int .i64 (1 + ((1 + x175) % (1 + x12)))), (3, .int .i64 (1 + x228))]) kk kk) ?_
     refine M.sn (fun b => .slice (some ⟨b, 0, none⟩) 1 1) #[.int .i64 (d1 + 1 + x165), .int .i64 (1 + x175), .int .i64 (1 + ((1 + x175) % (1 + x12))), .int .i64 (1 + x228)] 51 s234 rfl kk rfl (fun _ => by kernel_rfl) (fun b236 w237 hb238 k239 x240 s241 => ?_)
     refine F.nx ?_
     have lo242 : w.heap.size ≤ b236 := Nat.le_trans ((SM.fr (B := B) c183 s234 (in3 (fun kq e => .inl (by cases e; rfl)) (fun kq e => .inr (World.ownsRow.lt ho182 kq e).1) (fun kq e => .inr (by cases e; exact lo25))))).size (Nat.le_of_eq hb238)
     have x233 := Cur.below x233 k239
     have x189 := (k239.block _ (blk_lt x189)).trans x189
     have ho247 := own_kept ho235 k239
     refine M.sap (e := 51) (size := 4) (base := w.heap.size) (m := 1) (v := .slice A1_c3_1 n1_c3_1 c1_c3_1) (c := 1) s241 rfl rfl rfl rfl kk kk kk ho247 x240 kk kk (by omega) (by omega) (by have := ((SM.fr (B := B) c183 s241 (in3 (fun kq e => .inl (by cases e; rfl)) (fun kq e => .inr (World.ownsRow.lt ho182 kq e).1) (fun kq e => .inr (by cases e; exact lo25))))).size; omega) (.inl (by simp)) (fun g248 cap249 w250 ho251 hg252 hat253 hlt254 s255 => ?_)
     refine F.nx ?_
     have nb256 : Nb B (.slice (some ⟨g248, 0, none⟩) (n1_c3_1 + 1) cap249) := nb_app nb1_c3_1_B (Cur.lt x233) hat253
     have x233 := Cur.grown x233 hg252 nb1_c3_1_B (fun j e => Nat.le_trans hN (World.ownsRow.lt ho247 j e).1)
     have nb257 : Nb b2 (.slice (some ⟨g248, 0, none⟩) (n1_c3_1 + 1) cap249) := nb_app nb1_c3_1_b2 (Nat.lt_of_lt_of_le (blk_lt x6) (s241).size) hat253
     have nb258 : Nb b19 (.slice (some ⟨g248, 0, none⟩) (n1_c3_1 + 1) cap249) := nb_app nb1_c3_1_b19 (blk_lt x189) hat253
     have x189 := (hg252.block _ (blk_lt x189) nb1_c3_1_b19).trans x189
     have ho251 := own_snocP (x := (Pp.mk (d1 + 1 + x165) (1 + x175) (1 + ((1 + x175) % (1 + x12))) (1 + x228))) ho251
     refine Fq (.pointer (some ⟨b19, 1, none⟩)) (r_field (k := 1) rfl ek kk) ?_
     refine M.ss (v := .slice (some ⟨g248, 0, none⟩) (n1_c3_1 + 1) cap249) (j := 1) (news := [.slice (some ⟨g248, 0, none⟩) (n1_c3_1 + 1) cap249]) (cs' := #[.int .i64 (1 + x12), .slice (some ⟨g248, 0, none⟩) (n1_c3_1 + 1) cap249]) s255 rfl kk rfl rfl kk kk x189 kk kk (by simp) kk kk (.inl (by simp)) (fun w260 g261 x262 s263 => ?_)
     have x233 := Cur.grown x233 g261 (fun e9 => ne26 (Option.some.inj e9)) (fun j e => by cases e; exact Nat.le_trans hN lo25)
     have ho264 := own_grown ho251 g261 (fun j e1 e2 => by cases e2; exact nb258 e1.symm)
     refine F.es ?_
     have x6 := SM.blk s263 x6 (ne3 (fun e9 => ne9 (Option.some.inj e9).symm) nb1_c3_1_b2 (fun e9 => ne27 (Option.some.inj e9)))
     have c265 := (SM.fr (B := B) c183 s263 (in3 (fun kq e => .inl (by cases e; rfl)) (fun kq e => .inr (World.ownsRow.lt ho182 kq e).1) (fun kq e => .inr (by cases e; exact lo25))))
     refine h21 _ _ ?_
     refine W.region_quiet [(0, false), (1, false), (2, false)] kk ?_
     refine Fv (.int .i64 z) ?_
     refine Fq (.int .i64 (z - 1)) (r_sub (m := z) (n := 1) (z := z - 1) rfl ek ek (rfl) (by omega)) ?_
     refine Fa (.int .i64 (z - 1)) ?_
     refine F.es ?_
     exact h18 _ _ _ (by omega : ((z - 1).toNat) < _) ⟨z - 1, d1 + 1 + x165, (ps1 ++ [(Pp.mk (d1 + 1 + x165) (1 + x175) (1 + ((1 + x175) % (1 + x12))) (1 + x228))]), (some ⟨g248, 0, none⟩), (n1_c3_1 + 1), cap249, Kn.of, rfl, (by omega), (⟨by omega, by omega⟩), (sm_snoc hps1 (sm_mk (by omega))), (by rw [snoc_len]; omega), (Cur.mono x233 (by omega)), x6, x262, ho264, nb256, nb257, nb258, c265⟩
    ·refine W.slq (v := .int .i64 (1 + x12)) s186 rfl (r_load rfl kk kk (eqS (blk_cell (j := 0) x189 kk))) kk rfl ?_
     refine F.nx ?_
     have hr1 := Int.emod_nonneg (1 + x175) (show (1 + x12) ≠ 0 by omega)
     have hr2 := Int.emod_lt_of_pos (1 + x175) (show 0 < (1 + x12) by omega)
     refine Fq (.int .i64 ((1 + x175) % (1 + x12))) (r_remK (k := .i64) (m := 1 + x175) (n := 1 + x12) (z := ((1 + x175) % (1 + x12))) rfl ek ek (by omega) (Int.tmod_eq_emod_of_nonneg (by omega))) ?_
     refine Fq (.int .i64 (1 + ((1 + x175) % (1 + x12)))) (r_add (m := 1) (n := ((1 + x175) % (1 + x12))) (z := 1 + ((1 + x175) % (1 + x12))) rfl ek ek (rfl) (by omega)) ?_
     refine W.sbr ?_ ?_
     ·refine W.slq (v := .slice A1_c3_1 n1_c3_1 c1_c3_1) s186 rfl (r_load rfl kk kk (eqS (blk_cell (j := 1) x189 kk))) kk rfl ?_
      refine F.nx ?_
      refine Fc [.pointer (some ⟨B, 0, none⟩), .int .i64 9] (pick_any B N ((k + 200 + 10 * (4 - z.toNat) + 2) + 2) 9 _ x188 (by omega) (by omega)) ?_
      rintro e w269 ⟨x266, rfl, hx267, x271, g270⟩
      have s272 := SM.of_grown s186 g270 (.inl (by simp))
      refine ⟨_, rfl, s272, ?_⟩
      refine F.nx ?_
      have x189 := (g270.block _ (blk_lt x189) (fun e9 => ne26 (Option.some.inj e9).symm)).trans x189
      have ho273 := own_grown ho187 g270 (fun j e1 e2 => by cases e2; exact nb1_c3_1_B e1.symm)
      refine Fq (.int .i64 (1 + x266)) (r_add (m := 1) (n := x266) (z := 1 + x266) rfl ek ek (rfl) (by omega)) ?_
      refine Fq (.agg #[.int .i64 (d1 + 1 + x165), .int .i64 (1 + x175), .int .i64 (1 + ((1 + x175) % (1 + x12))), .int .i64 (1 + x266)]) (r_build rfl (vs := [(0, .int .i64 (d1 + 1 + x165)), (1, .int .i64 (1 + x175)), (2, .int .i64 (1 + ((1 + x175) % (1 + x12)))), (3, .int .i64 (1 + x266))]) kk kk) ?_
      refine M.sn (fun b => .slice (some ⟨b, 0, none⟩) 1 1) #[.int .i64 (d1 + 1 + x165), .int .i64 (1 + x175), .int .i64 (1 + ((1 + x175) % (1 + x12))), .int .i64 (1 + x266)] 51 s272 rfl kk rfl (fun _ => by kernel_rfl) (fun b274 w275 hb276 k277 x278 s279 => ?_)
      refine F.nx ?_
      have lo280 : w.heap.size ≤ b274 := Nat.le_trans ((SM.fr (B := B) c183 s272 (in3 (fun kq e => .inl (by cases e; rfl)) (fun kq e => .inr (World.ownsRow.lt ho182 kq e).1) (fun kq e => .inr (by cases e; exact lo25))))).size (Nat.le_of_eq hb276)
      have x271 := Cur.below x271 k277
      have x189 := (k277.block _ (blk_lt x189)).trans x189
      have ho285 := own_kept ho273 k277
      refine M.sap (e := 51) (size := 4) (base := w.heap.size) (m := 1) (v := .slice A1_c3_1 n1_c3_1 c1_c3_1) (c := 1) s279 rfl rfl rfl rfl kk kk kk ho285 x278 kk kk (by omega) (by omega) (by have := ((SM.fr (B := B) c183 s279 (in3 (fun kq e => .inl (by cases e; rfl)) (fun kq e => .inr (World.ownsRow.lt ho182 kq e).1) (fun kq e => .inr (by cases e; exact lo25))))).size; omega) (.inl (by simp)) (fun g286 cap287 w288 ho289 hg290 hat291 hlt292 s293 => ?_)
      refine F.nx ?_
      have nb294 : Nb B (.slice (some ⟨g286, 0, none⟩) (n1_c3_1 + 1) cap287) := nb_app nb1_c3_1_B (Cur.lt x271) hat291
      have x271 := Cur.grown x271 hg290 nb1_c3_1_B (fun j e => Nat.le_trans hN (World.ownsRow.lt ho285 j e).1)
      have nb295 : Nb b2 (.slice (some ⟨g286, 0, none⟩) (n1_c3_1 + 1) cap287) := nb_app nb1_c3_1_b2 (Nat.lt_of_lt_of_le (blk_lt x6) (s279).size) hat291
      have nb296 : Nb b19 (.slice (some ⟨g286, 0, none⟩) (n1_c3_1 + 1) cap287) := nb_app nb1_c3_1_b19 (blk_lt x189) hat291
      have x189 := (hg290.block _ (blk_lt x189) nb1_c3_1_b19).trans x189
      have ho289 := own_snocP (x := (Pp.mk (d1 + 1 + x165) (1 + x175) (1 + ((1 + x175) % (1 + x12))) (1 + x266))) ho289
      refine Fq (.pointer (some ⟨b19, 1, none⟩)) (r_field (k := 1) rfl ek kk) ?_
      refine M.ss (v := .slice (some ⟨g286, 0, none⟩) (n1_c3_1 + 1) cap287) (j := 1) (news := [.slice (some ⟨g286, 0, none⟩) (n1_c3_1 + 1) cap287]) (cs' := #[.int .i64 (1 + x12), .slice (some ⟨g286, 0, none⟩) (n1_c3_1 + 1) cap287]) s293 rfl kk rfl rfl kk kk x189 kk kk (by simp) kk kk (.inl (by simp)) (fun w298 g299 x300 s301 => ?_)
      have x271 := Cur.grown x271 g299 (fun e9 => ne26 (Option.some.inj e9)) (fun j e => by cases e; exact Nat.le_trans hN lo25)
      have ho302 := own_grown ho289 g299 (fun j e1 e2 => by cases e2; exact nb296 e1.symm)
      refine F.es ?_
      have x6 := SM.blk s301 x6 (ne3 (fun e9 => ne9 (Option.some.inj e9).symm) nb1_c3_1_b2 (fun e9 => ne27 (Option.some.inj e9)))
      have c303 := (SM.fr (B := B) c183 s301 (in3 (fun kq e => .inl (by cases e; rfl)) (fun kq e => .inr (World.ownsRow.lt ho182 kq e).1) (fun kq e => .inr (by cases e; exact lo25))))
      refine h21 _ _ ?_
      refine W.region_quiet [(0, false), (1, false), (2, false)] kk ?_
      refine Fv (.int .i64 z) ?_
      refine Fq (.int .i64 (z - 1)) (r_sub (m := z) (n := 1) (z := z - 1) rfl ek ek (rfl) (by omega)) ?_
      refine Fa (.int .i64 (z - 1)) ?_
      refine F.es ?_
      exact h18 _ _ _ (by omega : ((z - 1).toNat) < _) ⟨z - 1, d1 + 1 + x165, (ps1 ++ [(Pp.mk (d1 + 1 + x165) (1 + x175) (1 + ((1 + x175) % (1 + x12))) (1 + x266))]), (some ⟨g286, 0, none⟩), (n1_c3_1 + 1), cap287, Kn.of, rfl, (by omega), (⟨by omega, by omega⟩), (sm_snoc hps1 (sm_mk (by omega))), (by rw [snoc_len]; omega), (Cur.mono x271 (by omega)), x6, x300, ho302, nb294, nb295, nb296, c303⟩
     refine Fc [.pointer (some ⟨B, 0, none⟩), .int .i64 9] (pick_any B N ((k + 200 + 10 * (4 - z.toNat) + 2) + 2) 9 _ x188 (by omega) (by omega)) ?_
     rintro e w307 ⟨x304, rfl, hx305, x309, g308⟩
     have s310 := SM.of_grown s186 g308 (.inl (by simp))
     refine ⟨_, rfl, s310, ?_⟩
     refine F.nx ?_
     have x189 := (g308.block _ (blk_lt x189) (fun e9 => ne26 (Option.some.inj e9).symm)).trans x189
     have ho311 := own_grown ho187 g308 (fun j e1 e2 => by cases e2; exact nb1_c3_1_B e1.symm)
     refine Fq (.int .i64 (1 + x304)) (r_add (m := 1) (n := x304) (z := 1 + x304) rfl ek ek (rfl) (by omega)) ?_
     refine Fq (.agg #[.int .i64 (d1 + 1 + x165), .int .i64 (1 + x175), .int .i64 (1 + ((1 + x175) % (1 + x12))), .int .i64 (1 + x304)]) (r_build rfl (vs := [(0, .int .i64 (d1 + 1 + x165)), (1, .int .i64 (1 + x175)), (2, .int .i64 (1 + ((1 + x175) % (1 + x12)))), (3, .int .i64 (1 + x304))]) kk kk) ?_
     refine W.sbr ?_ ?_
     ·refine W.slq (v := .slice A1_c3_1 n1_c3_1 c1_c3_1) s310 rfl (r_load rfl kk kk (eqS (blk_cell (j := 1) x189 kk))) kk rfl ?_
      refine F.nx ?_
      refine M.sn (fun b => .slice (some ⟨b, 0, none⟩) 1 1) #[.int .i64 (d1 + 1 + x165), .int .i64 (1 + x175), .int .i64 (1 + ((1 + x175) % (1 + x12))), .int .i64 (1 + x304)] 51 s310 rfl kk rfl (fun _ => by kernel_rfl) (fun b312 w313 hb314 k315 x316 s317 => ?_)
      refine F.nx ?_
      have lo318 : w.heap.size ≤ b312 := Nat.le_trans ((SM.fr (B := B) c183 s310 (in3 (fun kq e => .inl (by cases e; rfl)) (fun kq e => .inr (World.ownsRow.lt ho182 kq e).1) (fun kq e => .inr (by cases e; exact lo25))))).size (Nat.le_of_eq hb314)
      have x309 := Cur.below x309 k315
      have x189 := (k315.block _ (blk_lt x189)).trans x189
      have ho323 := own_kept ho311 k315
      refine M.sap (e := 51) (size := 4) (base := w.heap.size) (m := 1) (v := .slice A1_c3_1 n1_c3_1 c1_c3_1) (c := 1) s317 rfl rfl rfl rfl kk kk kk ho323 x316 kk kk (by omega) (by omega) (by have := ((SM.fr (B := B) c183 s317 (in3 (fun kq e => .inl (by cases e; rfl)) (fun kq e => .inr (World.ownsRow.lt ho182 kq e).1) (fun kq e => .inr (by cases e; exact lo25))))).size; omega) (.inl (by simp)) (fun g324 cap325 w326 ho327 hg328 hat329 hlt330 s331 => ?_)
      refine F.nx ?_
      have nb332 : Nb B (.slice (some ⟨g324, 0, none⟩) (n1_c3_1 + 1) cap325) := nb_app nb1_c3_1_B (Cur.lt x309) hat329
      have x309 := Cur.grown x309 hg328 nb1_c3_1_B (fun j e => Nat.le_trans hN (World.ownsRow.lt ho323 j e).1)
      have nb333 : Nb b2 (.slice (some ⟨g324, 0, none⟩) (n1_c3_1 + 1) cap325) := nb_app nb1_c3_1_b2 (Nat.lt_of_lt_of_le (blk_lt x6) (s317).size) hat329
      have nb334 : Nb b19 (.slice (some ⟨g324, 0, none⟩) (n1_c3_1 + 1) cap325) := nb_app nb1_c3_1_b19 (blk_lt x189) hat329
      have x189 := (hg328.block _ (blk_lt x189) nb1_c3_1_b19).trans x189
      have ho327 := own_snocP (x := (Pp.mk (d1 + 1 + x165) (1 + x175) (1 + ((1 + x175) % (1 + x12))) (1 + x304))) ho327
      refine Fq (.pointer (some ⟨b19, 1, none⟩)) (r_field (k := 1) rfl ek kk) ?_
      refine M.ss (v := .slice (some ⟨g324, 0, none⟩) (n1_c3_1 + 1) cap325) (j := 1) (news := [.slice (some ⟨g324, 0, none⟩) (n1_c3_1 + 1) cap325]) (cs' := #[.int .i64 (1 + x12), .slice (some ⟨g324, 0, none⟩) (n1_c3_1 + 1) cap325]) s331 rfl kk rfl rfl kk kk x189 kk kk (by simp) kk kk (.inl (by simp)) (fun w336 g337 x338 s339 => ?_)
      have x309 := Cur.grown x309 g337 (fun e9 => ne26 (Option.some.inj e9)) (fun j e => by cases e; exact Nat.le_trans hN lo25)
      have ho340 := own_grown ho327 g337 (fun j e1 e2 => by cases e2; exact nb334 e1.symm)
      refine F.es ?_
      have x6 := SM.blk s339 x6 (ne3 (fun e9 => ne9 (Option.some.inj e9).symm) nb1_c3_1_b2 (fun e9 => ne27 (Option.some.inj e9)))
      have c341 := (SM.fr (B := B) c183 s339 (in3 (fun kq e => .inl (by cases e; rfl)) (fun kq e => .inr (World.ownsRow.lt ho182 kq e).1) (fun kq e => .inr (by cases e; exact lo25))))
      refine h21 _ _ ?_
      refine W.region_quiet [(0, false), (1, false), (2, false)] kk ?_
      refine Fv (.int .i64 z) ?_
      refine Fq (.int .i64 (z - 1)) (r_sub (m := z) (n := 1) (z := z - 1) rfl ek ek (rfl) (by omega)) ?_
      refine Fa (.int .i64 (z - 1)) ?_
      refine F.es ?_
      exact h18 _ _ _ (by omega : ((z - 1).toNat) < _) ⟨z - 1, d1 + 1 + x165, (ps1 ++ [(Pp.mk (d1 + 1 + x165) (1 + x175) (1 + ((1 + x175) % (1 + x12))) (1 + x304))]), (some ⟨g324, 0, none⟩), (n1_c3_1 + 1), cap325, Kn.of, rfl, (by omega), (⟨by omega, by omega⟩), (sm_snoc hps1 (sm_mk (by omega))), (by rw [snoc_len]; omega), (Cur.mono x309 (by omega)), x6, x338, ho340, nb332, nb333, nb334, c341⟩
     refine M.sn (fun b => .slice (some ⟨b, 0, none⟩) 1 1) #[.int .i64 (d1 + 1 + x165), .int .i64 (1 + x175), .int .i64 (1 + ((1 + x175) % (1 + x12))), .int .i64 (1 + x304)] 51 s310 rfl kk rfl (fun _ => by kernel_rfl) (fun b342 w343 hb344 k345 x346 s347 => ?_)
     refine F.nx ?_
     have lo348 : w.heap.size ≤ b342 := Nat.le_trans ((SM.fr (B := B) c183 s310 (in3 (fun kq e => .inl (by cases e; rfl)) (fun kq e => .inr (World.ownsRow.lt ho182 kq e).1) (fun kq e => .inr (by cases e; exact lo25))))).size (Nat.le_of_eq hb344)
     have x309 := Cur.below x309 k345
     have x189 := (k345.block _ (blk_lt x189)).trans x189
     have ho353 := own_kept ho311 k345
     refine W.slq (v := .slice A1_c3_1 n1_c3_1 c1_c3_1) s347 rfl (r_load rfl kk kk (eqS (blk_cell (j := 1) x189 kk))) kk rfl ?_
     refine F.nx ?_
     refine M.sap (e := 51) (size := 4) (base := w.heap.size) (m := 1) (v := .slice A1_c3_1 n1_c3_1 c1_c3_1) (c := 1) s347 rfl rfl rfl rfl kk kk kk ho353 x346 kk kk (by omega) (by omega) (by have := ((SM.fr (B := B) c183 s347 (in3 (fun kq e => .inl (by cases e; rfl)) (fun kq e => .inr (World.ownsRow.lt ho182 kq e).1) (fun kq e => .inr (by cases e; exact lo25))))).size; omega) (.inl (by simp)) (fun g354 cap355 w356 ho357 hg358 hat359 hlt360 s361 => ?_)
     refine F.nx ?_
     have nb362 : Nb B (.slice (some ⟨g354, 0, none⟩) (n1_c3_1 + 1) cap355) := nb_app nb1_c3_1_B (Cur.lt x309) hat359
     have x309 := Cur.grown x309 hg358 nb1_c3_1_B (fun j e => Nat.le_trans hN (World.ownsRow.lt ho353 j e).1)
     have nb363 : Nb b2 (.slice (some ⟨g354, 0, none⟩) (n1_c3_1 + 1) cap355) := nb_app nb1_c3_1_b2 (Nat.lt_of_lt_of_le (blk_lt x6) (s347).size) hat359
     have nb364 : Nb b19 (.slice (some ⟨g354, 0, none⟩) (n1_c3_1 + 1) cap355) := nb_app nb1_c3_1_b19 (blk_lt x189) hat359
     have x189 := (hg358.block _ (blk_lt x189) nb1_c3_1_b19).trans x189
     have ho357 := own_snocP (x := (Pp.mk (d1 + 1 + x165) (1 + x175) (1 + ((1 + x175) % (1 + x12))) (1 + x304))) ho357
     refine Fq (.pointer (some ⟨b19, 1, none⟩)) (r_field (k := 1) rfl ek kk) ?_
     refine M.ss (v := .slice (some ⟨g354, 0, none⟩) (n1_c3_1 + 1) cap355) (j := 1) (news := [.slice (some ⟨g354, 0, none⟩) (n1_c3_1 + 1) cap355]) (cs' := #[.int .i64 (1 + x12), .slice (some ⟨g354, 0, none⟩) (n1_c3_1 + 1) cap355]) s361 rfl kk rfl rfl kk kk x189 kk kk (by simp) kk kk (.inl (by simp)) (fun w366 g367 x368 s369 => ?_)
     have x309 := Cur.grown x309 g367 (fun e9 => ne26 (Option.some.inj e9)) (fun j e => by cases e; exact Nat.le_trans hN lo25)
     have ho370 := own_grown ho357 g367 (fun j e1 e2 => by cases e2; exact nb364 e1.symm)
     refine F.es ?_
     have x6 := SM.blk s369 x6 (ne3 (fun e9 => ne9 (Option.some.inj e9).symm) nb1_c3_1_b2 (fun e9 => ne27 (Option.some.inj e9)))
     have c371 := (SM.fr (B := B) c183 s369 (in3 (fun kq e => .inl (by cases e; rfl)) (fun kq e => .inr (World.ownsRow.lt ho182 kq e).1) (fun kq e => .inr (by cases e; exact lo25))))
     refine h21 _ _ ?_
     refine W.region_quiet [(0, false), (1, false), (2, false)] kk ?_
     refine Fv (.int .i64 z) ?_
     refine Fq (.int .i64 (z - 1)) (r_sub (m := z) (n := 1) (z := z - 1) rfl ek ek (rfl) (by omega)) ?_
     refine Fa (.int .i64 (z - 1)) ?_
     refine F.es ?_
     exact h18 _ _ _ (by omega : ((z - 1).toNat) < _) ⟨z - 1, d1 + 1 + x165, (ps1 ++ [(Pp.mk (d1 + 1 + x165) (1 + x175) (1 + ((1 + x175) % (1 + x12))) (1 + x304))]), (some ⟨g354, 0, none⟩), (n1_c3_1 + 1), cap355, Kn.of, rfl, (by omega), (⟨by omega, by omega⟩), (sm_snoc hps1 (sm_mk (by omega))), (by rw [snoc_len]; omega), (Cur.mono x309 (by omega)), x6, x368, ho370, nb362, nb363, nb364, c371⟩
    refine Fc [.pointer (some ⟨B, 0, none⟩), .int .i64 9] (pick_any B N ((k + 200 + 10 * (4 - z.toNat) + 2) + 2) 9 _ x188 (by omega) (by omega)) ?_
    rintro e w375 ⟨x372, rfl, hx373, x377, g376⟩
    have s378 := SM.of_grown s186 g376 (.inl (by simp))
    refine ⟨_, rfl, s378, ?_⟩
    refine F.nx ?_
    have x189 := (g376.block _ (blk_lt x189) (fun e9 => ne26 (Option.some.inj e9).symm)).trans x189
    have ho379 := own_grown ho187 g376 (fun j e1 e2 => by cases e2; exact nb1_c3_1_B e1.symm)
    refine Fq (.int .i64 (1 + x372)) (r_add (m := 1) (n := x372) (z := 1 + x372) rfl ek ek (rfl) (by omega)) ?_
    refine W.sbr ?_ ?_
    ·refine W.slq (v := .slice A1_c3_1 n1_c3_1 c1_c3_1) s378 rfl (r_load rfl kk kk (eqS (blk_cell (j := 1) x189 kk))) kk rfl ?_
     refine F.nx ?_
     refine W.slq (v := .int .i64 (1 + x12)) s378 rfl (r_load rfl kk kk (eqS (blk_cell (j := 0) x189 kk))) kk rfl ?_
     refine F.nx ?_
     have hr1 := Int.emod_nonneg (1 + x175) (show (1 + x12) ≠ 0 by omega)
     have hr2 := Int.emod_lt_of_pos (1 + x175) (show 0 < (1 + x12) by omega)
     refine Fq (.int .i64 ((1 + x175) % (1 + x12))) (r_remK (k := .i64) (m := 1 + x175) (n := 1 + x12) (z := ((1 + x175) % (1 + x12))) rfl ek ek (by omega) (Int.tmod_eq_emod_of_nonneg (by omega))) ?_
     refine Fq (.int .i64 (1 + ((1 + x175) % (1 + x12)))) (r_add (m := 1) (n := ((1 + x175) % (1 + x12))) (z := 1 + ((1 + x175) % (1 + x12))) rfl ek ek (rfl) (by omega)) ?_
     refine Fq (.agg #[.int .i64 (d1 + 1 + x165), .int .i64 (1 + x175), .int .i64 (1 + ((1 + x175) % (1 + x12))), .int .i64 (1 + x372)]) (r_build rfl (vs := [(0, .int .i64 (d1 + 1 + x165)), (1, .int .i64 (1 + x175)), (2, .int .i64 (1 + ((1 + x175) % (1 + x12)))), (3, .int .i64 (1 + x372))]) kk kk) ?_
     refine M.sn (fun b => .slice (some ⟨b, 0, none⟩) 1 1) #[.int .i64 (d1 + 1 + x165), .int .i64 (1 + x175), .int .i64 (1 + ((1 + x175) % (1 + x12))), .int .i64 (1 + x372)] 51 s378 rfl kk rfl (fun _ => by kernel_rfl) (fun b380 w381 hb382 k383 x384 s385 => ?_)
     refine F.nx ?_
     have lo386 : w.heap.size ≤ b380 := Nat.le_trans ((SM.fr (B := B) c183 s378 (in3 (fun kq e => .inl (by cases e; rfl)) (fun kq e => .inr (World.ownsRow.lt ho182 kq e).1) (fun kq e => .inr (by cases e; exact lo25))))).size (Nat.le_of_eq hb382)
     have x377 := Cur.below x377 k383
     have x189 := (k383.block _ (blk_lt x189)).trans x189
     have ho391 := own_kept ho379 k383
     refine M.sap (e := 51) (size := 4) (base := w.heap.size) (m := 1) (v := .slice A1_c3_1 n1_c3_1 c1_c3_1) (c := 1) s385 rfl rfl rfl rfl kk kk kk ho391 x384 kk kk (by omega) (by omega) (by have := ((SM.fr (B := B) c183 s385 (in3 (fun kq e => .inl (by cases e; rfl)) (fun kq e => .inr (World.ownsRow.lt ho182 kq e).1) (fun kq e => .inr (by cases e; exact lo25))))).size; omega) (.inl (by simp)) (fun g392 cap393 w394 ho395 hg396 hat397 hlt398 s399 => ?_)
     refine F.nx ?_
     have nb400 : Nb B (.slice (some ⟨g392, 0, none⟩) (n1_c3_1 + 1) cap393) := nb_app nb1_c3_1_B (Cur.lt x377) hat397
     have x377 := Cur.grown x377 hg396 nb1_c3_1_B (fun j e => Nat.le_trans hN (World.ownsRow.lt ho391 j e).1)
     have nb401 : Nb b2 (.slice (some ⟨g392, 0, none⟩) (n1_c3_1 + 1) cap393) := nb_app nb1_c3_1_b2 (Nat.lt_of_lt_of_le (blk_lt x6) (s385).size) hat397
     have nb402 : Nb b19 (.slice (some ⟨g392, 0, none⟩) (n1_c3_1 + 1) cap393) := nb_app nb1_c3_1_b19 (blk_lt x189) hat397
     have x189 := (hg396.block _ (blk_lt x189) nb1_c3_1_b19).trans x189
     have ho395 := own_snocP (x := (Pp.mk (d1 + 1 + x165) (1 + x175) (1 + ((1 + x175) % (1 + x12))) (1 + x372))) ho395
     refine Fq (.pointer (some ⟨b19, 1, none⟩)) (r_field (k := 1) rfl ek kk) ?_
     refine M.ss (v := .slice (some ⟨g392, 0, none⟩) (n1_c3_1 + 1) cap393) (j := 1) (news := [.slice (some ⟨g392, 0, none⟩) (n1_c3_1 + 1) cap393]) (cs' := #[.int .i64 (1 + x12), .slice (some ⟨g392, 0, none⟩) (n1_c3_1 + 1) cap393]) s399 rfl kk rfl rfl kk kk x189 kk kk (by simp) kk kk (.inl (by simp)) (fun w404 g405 x406 s407 => ?_)
     have x377 := Cur.grown x377 g405 (fun e9 => ne26 (Option.some.inj e9)) (fun j e => by cases e; exact Nat.le_trans hN lo25)
     have ho408 := own_grown ho395 g405 (fun j e1 e2 => by cases e2; exact nb402 e1.symm)
     refine F.es ?_
     have x6 := SM.blk s407 x6 (ne3 (fun e9 => ne9 (Option.some.inj e9).symm) nb1_c3_1_b2 (fun e9 => ne27 (Option.some.inj e9)))
     have c409 := (SM.fr (B := B) c183 s407 (in3 (fun kq e => .inl (by cases e; rfl)) (fun kq e => .inr (World.ownsRow.lt ho182 kq e).1) (fun kq e => .inr (by cases e; exact lo25))))
     refine h21 _ _ ?_
     refine W.region_quiet [(0, false), (1, false), (2, false)] kk ?_
     refine Fv (.int .i64 z) ?_
     refine Fq (.int .i64 (z - 1)) (r_sub (m := z) (n := 1) (z := z - 1) rfl ek ek (rfl) (by omega)) ?_
     refine Fa (.int .i64 (z - 1)) ?_
     refine F.es ?_
     exact h18 _ _ _ (by omega : ((z - 1).toNat) < _) ⟨z - 1, d1 + 1 + x165, (ps1 ++ [(Pp.mk (d1 + 1 + x165) (1 + x175) (1 + ((1 + x175) % (1 + x12))) (1 + x372))]), (some ⟨g392, 0, none⟩), (n1_c3_1 + 1), cap393, Kn.of, rfl, (by omega), (⟨by omega, by omega⟩), (sm_snoc hps1 (sm_mk (by omega))), (by rw [snoc_len]; omega), (Cur.mono x377 (by omega)), x6, x406, ho408, nb400, nb401, nb402, c409⟩
    refine W.slq (v := .int .i64 (1 + x12)) s378 rfl (r_load rfl kk kk (eqS (blk_cell (j := 0) x189 kk))) kk rfl ?_
    refine F.nx ?_
    have hr1 := Int.emod_nonneg (1 + x175) (show (1 + x12) ≠ 0 by omega)
    have hr2 := Int.emod_lt_of_pos (1 + x175) (show 0 < (1 + x12) by omega)
    refine Fq (.int .i64 ((1 + x175) % (1 + x12))) (r_remK (k := .i64) (m := 1 + x175) (n := 1 + x12) (z := ((1 + x175) % (1 + x12))) rfl ek ek (by omega) (Int.tmod_eq_emod_of_nonneg (by omega))) ?_
    refine Fq (.int .i64 (1 + ((1 + x175) % (1 + x12)))) (r_add (m := 1) (n := ((1 + x175) % (1 + x12))) (z := 1 + ((1 + x175) % (1 + x12))) rfl ek ek (rfl) (by omega)) ?_
    refine Fq (.agg #[.int .i64 (d1 + 1 + x165), .int .i64 (1 + x175), .int .i64 (1 + ((1 + x175) % (1 + x12))), .int .i64 (1 + x372)]) (r_build rfl (vs := [(0, .int .i64 (d1 + 1 + x165)), (1, .int .i64 (1 + x175)), (2, .int .i64 (1 + ((1 + x175) % (1 + x12)))), (3, .int .i64 (1 + x372))]) kk kk) ?_
    refine W.sbr ?_ ?_
    ·refine W.slq (v := .slice A1_c3_1 n1_c3_1 c1_c3_1) s378 rfl (r_load rfl kk kk (eqS (blk_cell (j := 1) x189 kk))) kk rfl ?_
     refine F.nx ?_
     refine M.sn (fun b => .slice (some ⟨b, 0, none⟩) 1 1) #[.int .i64 (d1 + 1 + x165), .int .i64 (1 + x175), .int .i64 (1 + ((1 + x175) % (1 + x12))), .int .i64 (1 + x372)] 51 s378 rfl kk rfl (fun _ => by kernel_rfl) (fun b410 w411 hb412 k413 x414 s415 => ?_)
     refine F.nx ?_
     have lo416 : w.heap.size ≤ b410 := Nat.le_trans ((SM.fr (B := B) c183 s378 (in3 (fun kq e => .inl (by cases e; rfl)) (fun kq e => .inr (World.ownsRow.lt ho182 kq e).1) (fun kq e => .inr (by cases e; exact lo25))))).size (Nat.le_of_eq hb412)
     have x377 := Cur.below x377 k413
     have x189 := (k413.block _ (blk_lt x189)).trans x189
     have ho421 := own_kept ho379 k413
     refine M.sap (e := 51) (size := 4) (base := w.heap.size) (m := 1) (v := .slice A1_c3_1 n1_c3_1 c1_c3_1) (c := 1) s415 rfl rfl rfl rfl kk kk kk ho421 x414 kk kk (by omega) (by omega) (by have := ((SM.fr (B := B) c183 s415 (in3 (fun kq e => .inl (by cases e; rfl)) (fun kq e => .inr (World.ownsRow.lt ho182 kq e).1) (fun kq e => .inr (by cases e; exact lo25))))).size; omega) (.inl (by simp)) (fun g422 cap423 w424 ho425 hg426 hat427 hlt428 s429 => ?_)
     refine F.nx ?_
     have nb430 : Nb B (.slice (some ⟨g422, 0, none⟩) (n1_c3_1 + 1) cap423) := nb_app nb1_c3_1_B (Cur.lt x377) hat427
     have x377 := Cur.grown x377 hg426 nb1_c3_1_B (fun j e => Nat.le_trans hN (World.ownsRow.lt ho421 j e).1)
     have nb431 : Nb b2 (.slice (some ⟨g422, 0, none⟩) (n1_c3_1 + 1) cap423) := nb_app nb1_c3_1_b2 (Nat.lt_of_lt_of_le (blk_lt x6) (s415).size) hat427
     have nb432 : Nb b19 (.slice (some ⟨g422, 0, none⟩) (n1_c3_1 + 1) cap423) := nb_app nb1_c3_1_b19 (blk_lt x189) hat427
     have x189 := (hg426.block _ (blk_lt x189) nb1_c3_1_b19).trans x189
     have ho425 := own_snocP (x := (Pp.mk (d1 + 1 + x165) (1 + x175) (1 + ((1 + x175) % (1 + x12))) (1 + x372))) ho425
     refine Fq (.pointer (some ⟨b19, 1, none⟩)) (r_field (k := 1) rfl ek kk) ?_
     refine M.ss (v := .slice (some ⟨g422, 0, none⟩) (n1_c3_1 + 1) cap423) (j := 1) (news := [.slice (some ⟨g422, 0, none⟩) (n1_c3_1 + 1) cap423]) (cs' := #[.int .i64 (1 + x12), .slice (some ⟨g422, 0, none⟩) (n1_c3_1 + 1) cap423]) s429 rfl kk rfl rfl kk kk x189 kk kk (by simp) kk kk (.inl (by simp)) (fun w434 g435 x436 s437 => ?_)
     have x377 := Cur.grown x377 g435 (fun e9 => ne26 (Option.some.inj e9)) (fun j e => by cases e; exact Nat.le_trans hN lo25)
     have ho438 := own_grown ho425 g435 (fun j e1 e2 => by cases e2; exact nb432 e1.symm)
     refine F.es ?_
     have x6 := SM.blk s437 x6 (ne3 (fun e9 => ne9 (Option.some.inj e9).symm) nb1_c3_1_b2 (fun e9 => ne27 (Option.some.inj e9)))
     have c439 := (SM.fr (B := B) c183 s437 (in3 (fun kq e => .inl (by cases e; rfl)) (fun kq e => .inr (World.ownsRow.lt ho182 kq e).1) (fun kq e => .inr (by cases e; exact lo25))))
     refine h21 _ _ ?_
     refine W.region_quiet [(0, false), (1, false), (2, false)] kk ?_
     refine Fv (.int .i64 z) ?_
     refine Fq (.int .i64 (z - 1)) (r_sub (m := z) (n := 1) (z := z - 1) rfl ek ek (rfl) (by omega)) ?_
     refine Fa (.int .i64 (z - 1)) ?_
     refine F.es ?_
     exact h18 _ _ _ (by omega : ((z - 1).toNat) < _) ⟨z - 1, d1 + 1 + x165, (ps1 ++ [(Pp.mk (d1 + 1 + x165) (1 + x175) (1 + ((1 + x175) % (1 + x12))) (1 + x372))]), (some ⟨g422, 0, none⟩), (n1_c3_1 + 1), cap423, Kn.of, rfl, (by omega), (⟨by omega, by omega⟩), (sm_snoc hps1 (sm_mk (by omega))), (by rw [snoc_len]; omega), (Cur.mono x377 (by omega)), x6, x436, ho438, nb430, nb431, nb432, c439⟩
    refine M.sn (fun b => .slice (some ⟨b, 0, none⟩) 1 1) #[.int .i64 (d1 + 1 + x165), .int .i64 (1 + x175), .int .i64 (1 + ((1 + x175) % (1 + x12))), .int .i64 (1 + x372)] 51 s378 rfl kk rfl (fun _ => by kernel_rfl) (fun b440 w441 hb442 k443 x444 s445 => ?_)
    refine F.nx ?_
    have lo446 : w.heap.size ≤ b440 := Nat.le_trans ((SM.fr (B := B) c183 s378 (in3 (fun kq e => .inl (by cases e; rfl)) (fun kq e => .inr (World.ownsRow.lt ho182 kq e).1) (fun kq e => .inr (by cases e; exact lo25))))).size (Nat.le_of_eq hb442)
    have x377 := Cur.below x377 k443
    have x189 := (k443.block _ (blk_lt x189)).trans x189
    have ho451 := own_kept ho379 k443
    refine W.slq (v := .slice A1_c3_1 n1_c3_1 c1_c3_1) s445 rfl (r_load rfl kk kk (eqS (blk_cell (j := 1) x189 kk))) kk rfl ?_
    refine F.nx ?_
    refine M.sap (e := 51) (size := 4) (base := w.heap.size) (m := 1) (v := .slice A1_c3_1 n1_c3_1 c1_c3_1) (c := 1) s445 rfl rfl rfl rfl kk kk kk ho451 x444 kk kk (by omega) (by omega) (by have := ((SM.fr (B := B) c183 s445 (in3 (fun kq e => .inl (by cases e; rfl)) (fun kq e => .inr (World.ownsRow.lt ho182 kq e).1) (fun kq e => .inr (by cases e; exact lo25))))).size; omega) (.inl (by simp)) (fun g452 cap453 w454 ho455 hg456 hat457 hlt458 s459 => ?_)
    refine F.nx ?_
    have nb460 : Nb B (.slice (some ⟨g452, 0, none⟩) (n1_c3_1 + 1) cap453) := nb_app nb1_c3_1_B (Cur.lt x377) hat457
    have x377 := Cur.grown x377 hg456 nb1_c3_1_B (fun j e => Nat.le_trans hN (World.ownsRow.lt ho451 j e).1)
    have nb461 : Nb b2 (.slice (some ⟨g452, 0, none⟩) (n1_c3_1 + 1) cap453) := nb_app nb1_c3_1_b2 (Nat.lt_of_lt_of_le (blk_lt x6) (s445).size) hat457
    have nb462 : Nb b19 (.slice (some ⟨g452, 0, none⟩) (n1_c3_1 + 1) cap453) := nb_app nb1_c3_1_b19 (blk_lt x189) hat457
    have x189 := (hg456.block _ (blk_lt x189) nb1_c3_1_b19).trans x189
    have ho455 := own_snocP (x := (Pp.mk (d1 + 1 + x165) (1 + x175) (1 + ((1 + x175) % (1 + x12))) (1 + x372))) ho455
    refine Fq (.pointer (some ⟨b19, 1, none⟩)) (r_field (k := 1) rfl ek kk) ?_
    refine M.ss (v := .slice (some ⟨g452, 0, none⟩) (n1_c3_1 + 1) cap453) (j := 1) (news := [.slice (some ⟨g452, 0, none⟩) (n1_c3_1 + 1) cap453]) (cs' := #[.int .i64 (1 + x12), .slice (some ⟨g452, 0, none⟩) (n1_c3_1 + 1) cap453]) s459 rfl kk rfl rfl kk kk x189 kk kk (by simp) kk kk (.inl (by simp)) (fun w464 g465 x466 s467 => ?_)
    have x377 := Cur.grown x377 g465 (fun e9 => ne26 (Option.some.inj e9)) (fun j e => by cases e; exact Nat.le_trans hN lo25)
    have ho468 := own_grown ho455 g465 (fun j e1 e2 => by cases e2; exact nb462 e1.symm)
    refine F.es ?_
    have x6 := SM.blk s467 x6 (ne3 (fun e9 => ne9 (Option.some.inj e9).symm) nb1_c3_1_b2 (fun e9 => ne27 (Option.some.inj e9)))
    have c469 := (SM.fr (B := B) c183 s467 (in3 (fun kq e => .inl (by cases e; rfl)) (fun kq e => .inr (World.ownsRow.lt ho182 kq e).1) (fun kq e => .inr (by cases e; exact lo25))))
    refine h21 _ _ ?_
    refine W.region_quiet [(0, false), (1, false), (2, false)] kk ?_
    refine Fv (.int .i64 z) ?_
    refine Fq (.int .i64 (z - 1)) (r_sub (m := z) (n := 1) (z := z - 1) rfl ek ek (rfl) (by omega)) ?_
    refine Fa (.int .i64 (z - 1)) ?_
    refine F.es ?_
    exact h18 _ _ _ (by omega : ((z - 1).toNat) < _) ⟨z - 1, d1 + 1 + x165, (ps1 ++ [(Pp.mk (d1 + 1 + x165) (1 + x175) (1 + ((1 + x175) % (1 + x12))) (1 + x372))]), (some ⟨g452, 0, none⟩), (n1_c3_1 + 1), cap453, Kn.of, rfl, (by omega), (⟨by omega, by omega⟩), (sm_snoc hps1 (sm_mk (by omega))), (by rw [snoc_len]; omega), (Cur.mono x377 (by omega)), x6, x466, ho468, nb460, nb461, nb462, c469⟩
   refine Fq (.bool false) (r_lss (m := (n1_c3_1 : Int)) (n := 10) rfl ek ek (decide_eq_false q163)) ?_
   refine Fq (.bool false) (r_pick (b := true) rfl ek ek) ?_
   refine F.es ?_
   refine h20 _ _ ?_
   refine wp_cond_false ek ?_
   refine wp_exit ?_
   refine h16 _ _ ?_
   refine wk fun K24 h24 => ?_
   refine W.region_plain (row := (some b2)) [(0, false), (1, true)] kk ?_
   have s470 := SG.self wl1 (some b2)
   refine Fq (.agg #[.int .i64 (1 + x12), .slice A1_c3_1 n1_c3_1 c1_c3_1]) (r_load2 rfl ek kk kk (sgS (blk_cell (j := 0) x30 kk) (fun e9 => ne27 (Option.some.inj e9).symm)) (sgS (blk_cell (j := 1) x30 kk) (fun e9 => ne27 (Option.some.inj e9).symm))) ?_
   refine W.ss (v := .agg #[.int .i64 (1 + x12), .slice A1_c3_1 n1_c3_1 c1_c3_1]) (j := 0) (news := [.int .i64 (1 + x12), .slice A1_c3_1 n1_c3_1 c1_c3_1]) (cs' := #[.int .i64 (1 + x12), .slice A1_c3_1 n1_c3_1 c1_c3_1]) s470 rfl kk rfl rfl kk kk x6 kk kk (by simp) kk kk (.inl rfl) (fun w471 g472 x473 s474 => ?_)
   have ho475 := own_grown ho1_c3_1 g472 (fun j e1 e2 => by cases e2; exact nb1_c3_1_b2 e1.symm)
   refine F.es ?_
   have x156 := Cur.grown x156 s474 (fun e9 => ne9 (Option.some.inj e9)) (fun j e => by cases e; exact Nat.le_trans hN lo8)
   have x30 := SG.blk s474 x30 (fun e9 => ne27 (Option.some.inj e9).symm)
   have c476 := (SG.fr (B := B) c160 s474 (fun kq e => .inr (by cases e; exact lo8)))
   refine h24 _ _ ?_
   refine wp_ret ?_
   try simp only [Exit.then]
   refine retC rfl rfl kk kk x473 ?_
   exact ⟨_, _, _, _, ps1, rfl, ⟨ho475, ⟨by omega, by omega⟩, by omega, hps1⟩, Cur.mono x156 (by omega), c476⟩
  refine Fq (.bool false) (r_gtr (m := 1 + x12) (n := 1) rfl ek ek (decide_eq_false q162)) ?_
  refine Fq (.bool false) (r_pick (b := true) rfl ek ek) ?_
  refine Fv (.bool false) ?_
  refine Fs rfl ?_
  refine Fs rfl ?_
  refine Fs rfl ?_
  refine Fs rfl ?_
  refine Fq (.bool false) (r_pick (b := false) rfl ek ek) ?_
  refine F.es ?_
  refine h20 _ _ ?_
  refine wp_cond_false ek ?_
  refine wp_exit ?_
  refine h16 _ _ ?_
  refine wk fun K25 h25 => ?_
  refine W.region_plain (row := (some b2)) [(0, false), (1, true)] kk ?_
  have s477 := SG.self wl1 (some b2)
  refine Fq (.agg #[.int .i64 (1 + x12), .slice A1_c3_1 n1_c3_1 c1_c3_1]) (r_load2 rfl ek kk kk (sgS (blk_cell (j := 0) x30 kk) (fun e9 => ne27 (Option.some.inj e9).symm)) (sgS (blk_cell (j := 1) x30 kk) (fun e9 => ne27 (Option.some.inj e9).symm))) ?_
  refine W.ss (v := .agg #[.int .i64 (1 + x12), .slice A1_c3_1 n1_c3_1 c1_c3_1]) (j := 0) (news := [.int .i64 (1 + x12), .slice A1_c3_1 n1_c3_1 c1_c3_1]) (cs' := #[.int .i64 (1 + x12), .slice A1_c3_1 n1_c3_1 c1_c3_1]) s477 rfl kk rfl rfl kk kk x6 kk kk (by simp) kk kk (.inl rfl) (fun w478 g479 x480 s481 => ?_)
  have ho482 := own_grown ho1_c3_1 g479 (fun j e1 e2 => by cases e2; exact nb1_c3_1_b2 e1.symm)
  refine F.es ?_
  have x156 := Cur.grown x156 s481 (fun e9 => ne9 (Option.some.inj e9)) (fun j e => by cases e; exact Nat.le_trans hN lo8)
  have x30 := SG.blk s481 x30 (fun e9 => ne27 (Option.some.inj e9).symm)
  have c483 := (SG.fr (B := B) c160 s481 (fun kq e => .inr (by cases e; exact lo8)))
  refine h25 _ _ ?_
  refine wp_ret ?_
  try simp only [Exit.then]
  refine retC rfl rfl kk kk x480 ?_
  exact ⟨_, _, _, _, ps1, rfl, ⟨ho482, ⟨by omega, by omega⟩, by omega, hps1⟩, Cur.mono x156 (by omega), c483⟩
 refine Fq (.bool false) (r_gtr (m := z) (n := 0) rfl ek ek (decide_eq_false q161)) ?_
 refine Fv (.bool false) ?_
 refine Fs rfl ?_
 refine Fs rfl ?_
 refine Fs rfl ?_
 refine Fq (.bool false) (r_pick (b := false) rfl ek ek) ?_
 refine Fv (.bool false) ?_
 refine Fs rfl ?_
 refine Fs rfl ?_
 refine Fs rfl ?_
 refine Fs rfl ?_
 refine Fq (.bool false) (r_pick (b := false) rfl ek ek) ?_
 refine F.es ?_
 refine h20 _ _ ?_
 refine wp_cond_false ek ?_
 refine wp_exit ?_
 refine h16 _ _ ?_
 refine wk fun K26 h26 => ?_
 refine W.region_plain (row := (some b2)) [(0, false), (1, true)] kk ?_
 have s484 := SG.self wl1 (some b2)
 refine Fq (.agg #[.int .i64 (1 + x12), .slice A1_c3_1 n1_c3_1 c1_c3_1]) (r_load2 rfl ek kk kk (sgS (blk_cell (j := 0) x30 kk) (fun e9 => ne27 (Option.some.inj e9).symm)) (sgS (blk_cell (j := 1) x30 kk) (fun e9 => ne27 (Option.some.inj e9).symm))) ?_
 refine W.ss (v := .agg #[.int .i64 (1 + x12), .slice A1_c3_1 n1_c3_1 c1_c3_1]) (j := 0) (news := [.int .i64 (1 + x12), .slice A1_c3_1 n1_c3_1 c1_c3_1]) (cs' := #[.int .i64 (1 + x12), .slice A1_c3_1 n1_c3_1 c1_c3_1]) s484 rfl kk rfl rfl kk kk x6 kk kk (by simp) kk kk (.inl rfl) (fun w485 g486 x487 s488 => ?_)
 have ho489 := own_grown ho1_c3_1 g486 (fun j e1 e2 => by cases e2; exact nb1_c3_1_b2 e1.symm)
 refine F.es ?_
 have x156 := Cur.grown x156 s488 (fun e9 => ne9 (Option.some.inj e9)) (fun j e => by cases e; exact Nat.le_trans hN lo8)
 have c490 := (SG.fr (B := B) c160 s488 (fun kq e => .inr (by cases e; exact lo8)))
 refine h26 _ _ ?_
 refine wp_ret ?_
 try simp only [Exit.then]
 refine retC rfl rfl kk kk x487 ?_
 exact ⟨_, _, _, _, ps1, rfl, ⟨ho489, ⟨by omega, by omega⟩, by omega, hps1⟩, Cur.mono x156 (by omega), c490⟩
set_option maxRecDepth 100000 in
set_option maxHeartbeats 8000000 in
theorem anyNetwork_any (B N k : Nat)  (w : World) (hc : Cur w B N k) (hk : k ≤ 700000000000)  :
    Calls Try.prog 68 #[.pointer (some ⟨B, 0, none⟩)] w fun e w' => ∃ (m : Int) (A' : Option Addr) (n' c' : Nat) (ps : List Pp), e = .returned (.agg #[.int .i64 m, .slice A' n' c']) ∧ (w'.ownsRow w.heap.size 51 4 (.slice A' n' c') n' (pipesV ps) ∧ smD 30 m ps) ∧ Cur w' B N (k + 400) ∧ w.grownBy w' (some B) := by
 have hN := Cur.hN hc
 go_enter Try.func68, Try.ntmps68
 refine F.begin 80 [(0, .pointer (some ⟨B, 0, none⟩))] (fun U0 => ?_)
 refine wk fun K1 h1 => ?_
 refine W.region_plain (row := none) [(0, true)] kk ?_
 have s1 := SG.self w none
 refine W.sn (fun b => .pointer (some ⟨b, 0, none⟩)) #[.int .i64 0, .slice none 0 0] 26 s1 rfl kk rfl (fun _ => by kernel_rfl) (fun b2 w3 hb4 k5 x6 s7 => ?_)
 refine F.nx ?_
 have lo8 : w.heap.size ≤ b2 := Nat.le_trans ((SG.fr (B := B) (World.grownBy.refl _ _) s1 (fun kq e => by cases e))).size (Nat.le_of_eq hb4)
 have ne9 : B ≠ b2 := Nat.ne_of_lt (Nat.lt_of_lt_of_eq (Nat.lt_of_lt_of_le (Cur.lt hc) (s1).size) hb4)
 refine F.es ?_
 have hc := Cur.below hc (SG.below s7)
 have c10 := (SG.fr (B := B) (World.grownBy.refl _ _) s7 (fun kq e => by cases e))
 refine h1 _ _ ?_
 refine wk fun K2 h2 => ?_
 refine W.region_plain (row := (some B)) [(0, false), (1, true), (2, true), (3, true)] kk ?_
 have s11 := SG.self w3 (some B)
 refine Fv (.pointer (some ⟨B, 0, none⟩)) ?_
 have z19 := ((SG.fr (B := B) c10 s11 (fun kq e => .inl (by cases e; rfl)))).size
 have lb23 := (Cur.lt hc)
 have lb24 := (Nat.lt_of_lt_of_le (blk_lt x6) (s11).size)
 refine Fc [.pointer (some ⟨B, 0, none⟩)] (network_any B N k _ hc (by omega)) ?_
 rintro e w26 ⟨m12, A13, n14, c15, ps16, rfl, ⟨ho17, hsm18⟩, x28, g27⟩
 have s29 := SG.of_grown s11 g27 (.inl rfl)
 refine ⟨_, rfl, s29, ?_⟩
 refine F.nx ?_
 have ho20 := own_base (base' := w.heap.size) ho17 z19
 have hl21 := rd_pipes_len (own_rd ho20)
 have hsm18m := hsm18.1
 have hsm18n := hsm18.2.1
 have nb30 : Nb B (.slice A13 n14 c15) := nb_lo ho17 lb23
 have nb31 : Nb b2 (.slice A13 n14 c15) := nb_lo ho17 lb24
 refine W.sn (fun b => .pointer (some ⟨b, 0, none⟩)) #[.int .i64 0, .slice none 0 0] 26 s29 rfl kk rfl (fun _ => by kernel_rfl) (fun b32 w33 hb34 k35 x36 s37 => ?_)
 refine F.nx ?_
 have lo38 : w.heap.size ≤ b32 := Nat.le_trans ((SG.fr (B := B) c10 s29 (fun kq e => .inl (by cases e; rfl)))).size (Nat.le_of_eq hb34)
 have ne39 : B ≠ b32 := Nat.ne_of_lt (Nat.lt_of_lt_of_eq (Cur.lt x28) hb34)
 have ne40 : b2 ≠ b32 := Nat.ne_of_lt (Nat.lt_of_lt_of_eq (Nat.lt_of_lt_of_le (blk_lt x6) (s29).size) hb34)
 have nb41 : Nb b32 (.slice A13 n14 c15) := nb_hi ho20 (Nat.le_of_eq hb34)
 have x28 := Cur.below x28 k35
 have ho42 := own_kept ho20 k35
 refine W.ss (v := .agg #[.int .i64 m12, .slice A13 n14 c15]) (j := 0) (news := [.int .i64 m12, .slice A13 n14 c15]) (cs' := #[.int .i64 m12, .slice A13 n14 c15]) s37 rfl kk rfl rfl kk kk x36 kk kk (by simp) kk kk (.inr (Nat.le_trans (s29).size (Nat.le_of_eq hb34))) (fun w43 g44 x45 s46 => ?_)
 have x28 := Cur.grown x28 g44 (fun e9 => ne39 (Option.some.inj e9)) (fun j e => by cases e; exact Nat.le_trans hN lo38)
 have ho47 := own_grown ho42 g44 (fun j e1 e2 => by cases e2; exact nb41 e1.symm)
 refine F.es ?_
 have x6 := SG.blk s46 x6 (fun e9 => ne9 (Option.some.inj e9).symm)
 have c48 := (SG.fr (B := B) c10 s46 (fun kq e => .inl (by cases e; rfl)))
 refine h2 _ _ ?_
 refine wk fun K3 h3 => ?_
 refine W.region_plain (row := none) [(0, false), (1, true), (2, true)] kk ?_
 have s49 := SG.self w43 none
 refine Fq (.agg #[.int .i64 99, .int .i64 1, .int .i64 2, .int .i64 1]) (r_build rfl (vs := [(0, .int .i64 99), (1, .int .i64 1), (2, .int .i64 2), (3, .int .i64 1)]) kk kk) ?_
 refine W.sn (fun b => .pointer (some ⟨b, 0, none⟩)) #[.int .i64 0, .int .i64 0, .int .i64 0, .int .i64 0] 51 s49 rfl kk rfl (fun _ => by kernel_rfl) (fun b50 w51 hb52 k53 x54 s55 => ?_)
 refine F.nx ?_
 have lo56 : w.heap.size ≤ b50 := Nat.le_trans ((SG.fr (B := B) c48 s49 (fun kq e => by cases e))).size (Nat.le_of_eq hb52)
 have ne57 : B ≠ b50 := Nat.ne_of_lt (Nat.lt_of_lt_of_eq (Nat.lt_of_lt_of_le (Cur.lt x28) (s49).size) hb52)
 have ne58 : b2 ≠ b50 := Nat.ne_of_lt (Nat.lt_of_lt_of_eq (Nat.lt_of_lt_of_le (blk_lt x6) (s49).size) hb52)
 have ne59 : b32 ≠ b50 := Nat.ne_of_lt (Nat.lt_of_lt_of_eq (Nat.lt_of_lt_of_le (blk_lt x45) (s49).size) hb52)
 have nb60 : Nb b50 (.slice A13 n14 c15) := nb_hi ho47 (Nat.le_of_eq hb52)
 have ho61 := own_kept ho47 k53
 refine W.ss (v := .agg #[.int .i64 99, .int .i64 1, .int .i64 2, .int .i64 1]) (j := 0) (news := [.int .i64 99, .int .i64 1, .int .i64 2, .int .i64 1]) (cs' := #[.int .i64 99, .int .i64 1, .int .i64 2, .int .i64 1]) s55 rfl kk rfl rfl kk kk x54 kk kk (by simp) kk kk (.inr (Nat.le_trans (s49).size (Nat.le_of_eq hb52))) (fun w62 g63 x64 s65 => ?_)
 have ho66 := own_grown ho61 g63 (fun j e1 e2 => by cases e2; exact nb60 e1.symm)
 refine F.es ?_
 have x28 := Cur.below x28 (SG.below s65)
 have x6 := SG.blk s65 x6 (Option.some_ne_none _)
 have x45 := SG.blk s65 x45 (Option.some_ne_none _)
 have c67 := (SG.fr (B := B) c48 s65 (fun kq e => by cases e))
 refine h3 _ _ ?_
 refine wk fun K4 h4 => ?_
 refine wk fun K5 h5 => ?_
 refine W.region_plain (row := (some B)) [(0, false), (1, true)] kk ?_
 have s68 := SG.self w62 (some B)
 refine Fv (.pointer (some ⟨B, 0, none⟩)) ?_
 refine Fc [.pointer (some ⟨B, 0, none⟩), .int .i64 24] (pick_any B N (k + 300) 24 _ x28 (by omega) (by omega)) ?_
 rintro e w72 ⟨x69, rfl, hx70, x74, g73⟩
 have s75 := SG.of_grown s68 g73 (.inl rfl)
 refine ⟨_, rfl, s75, ?_⟩
 refine F.nx ?_
 have ho76 := own_grown ho66 g73 (fun j e1 e2 => by cases e2; exact nb30 e1.symm)
 refine F.es ?_
 have x6 := SG.blk s75 x6 (fun e9 => ne9 (Option.some.inj e9).symm)
 have x45 := SG.blk s75 x45 (fun e9 => ne39 (Option.some.inj e9).symm)
 have x64 := SG.blk s75 x64 (fun e9 => ne57 (Option.some.inj e9).symm)
 have c77 := (SG.fr (B := B) c67 s75 (fun kq e => .inl (by cases e; rfl)))
 refine h5 _ _ ?_
 refine wp_block ?_
 refine wk fun K6 h6 => ?_
 refine W.region_quiet [(0, false), (1, false)] kk ?_
 by_cases q78 : (x69 : Int) = (0 : Int)
 ·refine Fq (.bool true) (r_eql (m := x69) (n := 0) rfl ek ek (decide_eq_true q78)) ?_
  refine Fa (.bool true) ?_
  refine F.es ?_
  refine h6 _ _ ?_
  refine wp_cond_true ek ?_
  refine M.region_plain (row := [(some B), (some b32)]) [(0, false), (1, true), (2, true), (3, false), (4, true)] kk ?_
  have s79 := SM.self w72 [(some B), (some b32)]
  refine Fv (.pointer (some ⟨B, 0, none⟩)) ?_
  refine M.sn (fun b => .slice (some ⟨b, 0, none⟩) 4 4) #[.int .i64 0, .int .i64 9, .int .i64 8, .int .i64 1] 3 s79 rfl kk rfl (fun _ => by kernel_rfl) (fun b80 w81 hb82 k83 x84 s85 => ?_)
  refine F.nx ?_
  have lo86 : w.heap.size ≤ b80 := Nat.le_trans ((SM.fr (B := B) c77 s79 (in2 (fun kq e => .inl (by cases e; rfl)) (fun kq e => .inr (by cases e; exact lo38))))).size (Nat.le_of_eq hb82)
  have ne87 : B ≠ b80 := Nat.ne_of_lt (Nat.lt_of_lt_of_eq (Cur.lt x74) hb82)
  have x74 := Cur.below x74 k83
  have x45 := (k83.block _ (blk_lt x45)).trans x45
  have ho92 := own_kept ho76 k83
  refine Fc [.pointer (some ⟨B, 0, none⟩), .slice (some ⟨b80, 0, none⟩) 4 4] (among_any B N ((k + 300) + 2) (some ⟨b80, 0, none⟩) 4 4 [0, 9, 8, 1] _ x74 (by omega) (rd_blk x84 rfl rfl) (sp_ne (by have := ne87; omega)) (by omega)) ?_
  rintro e w97 ⟨x93, rfl, hx94, x99, g98⟩
  have s100 := SM.of_grown s85 g98 (.inl (by simp))
  refine ⟨_, rfl, s100, ?_⟩
  refine F.nx ?_
  have x45 := (g98.block _ (blk_lt x45) (fun e9 => ne39 (Option.some.inj e9).symm)).trans x45
  have ho101 := own_grown ho92 g98 (fun j e1 e2 => by cases e2; exact nb30 e1.symm)
  have hb95 := bnd_of (0) 9 hx94 (by decide)
  refine Fq (.pointer (some ⟨b32, 0, none⟩)) (r_field0 rfl ek kk) ?_
  refine M.ss (v := .int .i64 x93) (j := 0) (news := [.int .i64 x93]) (cs' := #[.int .i64 x93, .slice A13 n14 c15]) s100 rfl kk rfl rfl kk kk x45 kk kk (by simp) kk kk (.inl (by simp)) (fun w102 g103 x104 s105 => ?_)
  have x99 := Cur.grown x99 g103 (fun e9 => ne39 (Option.some.inj e9)) (fun j e => by cases e; exact Nat.le_trans hN lo38)
  have ho106 := own_grown ho101 g103 (fun j e1 e2 => by cases e2; exact nb41 e1.symm)
  refine F.es ?_
  have x6 := SM.blk s105 x6 (ne2 (fun e9 => ne9 (Option.some.inj e9).symm) (fun e9 => ne40 (Option.some.inj e9)))
  have x64 := SM.blk s105 x64 (ne2 (fun e9 => ne57 (Option.some.inj e9).symm) (fun e9 => ne59 (Option.some.inj e9).symm))
  have c107 := (SM.fr (B := B) c77 s105 (in2 (fun kq e => .inl (by cases e; rfl)) (fun kq e => .inr (by cases e; exact lo38))))
  refine h4 _ _ ?_
  refine wk fun K7 h7 => ?_
  refine W.region_plain (row := (some b2)) [(0, false), (1, true)] kk ?_
  have s108 := SG.self w102 (some b2)
  refine Fq (.agg #[.int .i64 x93, .slice A13 n14 c15]) (r_load2 rfl ek kk kk (sgS (blk_cell (j := 0) x104 kk) (fun e9 => ne40 (Option.some.inj e9).symm)) (sgS (blk_cell (j := 1) x104 kk) (fun e9 => ne40 (Option.some.inj e9).symm))) ?_
  refine W.ss (v := .agg #[.int .i64 x93, .slice A13 n14 c15]) (j := 0) (news := [.int .i64 x93, .slice A13 n14 c15]) (cs' := #[.int .i64 x93, .slice A13 n14 c15]) s108 rfl kk rfl rfl kk kk x6 kk kk (by simp) kk kk (.inl rfl) (fun w109 g110 x111 s112 => ?_)
  have ho113 := own_grown ho106 g110 (fun j e1 e2 => by cases e2; exact nb31 e1.symm)
  refine F.es ?_
  have x99 := Cur.grown x99 s112 (fun e9 => ne9 (Option.some.inj e9)) (fun j e => by cases e; exact Nat.le_trans hN lo8)
  have x64 := SG.blk s112 x64 (fun e9 => ne58 (Option.some.inj e9).symm)
  have c114 := (SG.fr (B := B) c107 s112 (fun kq e => .inr (by cases e; exact lo8)))
  refine h7 _ _ ?_
  refine wp_ret ?_
  try simp only [Exit.then]
  refine retC rfl rfl kk kk x111 ?_
  exact ⟨_, _, _, _, ps16, rfl, ⟨ho113, ⟨by omega, by omega⟩, by omega, hsm18.2.2⟩, Cur.mono x99 (by omega), c114⟩
 refine Fq (.bool false) (r_eql (m := x69) (n := 0) rfl ek ek (decide_eq_false q78)) ?_
 refine Fa (.bool false) ?_
 refine F.es ?_
 refine h6 _ _ ?_
 refine wp_cond_false ek ?_
 refine wk fun K8 h8 => ?_
 refine W.region_quiet [(0, false), (1, false)] kk ?_
 by_cases q115 : (x69 : Int) = (1 : Int)
 ·refine Fq (.bool true) (r_eql (m := x69) (n := 1) rfl ek ek (decide_eq_true q115)) ?_
  refine Fa (.bool true) ?_
  refine F.es ?_
  refine h8 _ _ ?_
  refine wp_cond_true ek ?_
  refine wk fun K9 h9 => ?_
  refine M.region_plain (row := [(some B), (some b50)]) [(0, false), (1, true), (2, true), (3, false), (4, true)] kk ?_
  have s116 := SM.self w72 [(some B), (some b50)]
  refine Fv (.pointer (some ⟨B, 0, none⟩)) ?_
  refine M.sn (fun b => .slice (some ⟨b, 0, none⟩) 3 3) #[.int .i64 1, .int .i64 100, .int .i64 99] 3 s116 rfl kk rfl (fun _ => by kernel_rfl) (fun b117 w118 hb119 k120 x121 s122 => ?_)
  refine F.nx ?_
  have lo123 : w.heap.size ≤ b117 := Nat.le_trans ((SM.fr (B := B) c77 s116 (in2 (fun kq e => .inl (by cases e; rfl)) (fun kq e => .inr (by cases e; exact lo56))))).size (Nat.le_of_eq hb119)
  have ne124 : B ≠ b117 := Nat.ne_of_lt (Nat.lt_of_lt_of_eq (Cur.lt x74) hb119)
  have x74 := Cur.below x74 k120
  have x64 := (k120.block _ (blk_lt x64)).trans x64
  have ho129 := own_kept ho76 k120
  refine Fc [.pointer (some ⟨B, 0, none⟩), .slice (some ⟨b117, 0, none⟩) 3 3] (among_any B N ((k + 300) + 2) (some ⟨b117, 0, none⟩) 3 3 [1, 100, 99] _ x74 (by omega) (rd_blk x121 rfl rfl) (sp_ne (by have := ne124; omega)) (by omega)) ?_
  rintro e w134 ⟨x130, rfl, hx131, x136, g135⟩
  have s137 := SM.of_grown s122 g135 (.inl (by simp))
  refine ⟨_, rfl, s137, ?_⟩
  refine F.nx ?_
  have x64 := (g135.block _ (blk_lt x64) (fun e9 => ne57 (Option.some.inj e9).symm)).trans x64
  have ho138 := own_grown ho129 g135 (fun j e1 e2 => by cases e2; exact nb30 e1.symm)
  have hb132 := bnd_of (1) 100 hx131 (by decide)
  refine Fq (.pointer (some ⟨b50, 0, none⟩)) (r_field0 rfl ek kk) ?_
  refine M.ss (v := .int .i64 x130) (j := 0) (news := [.int .i64 x130]) (cs' := #[.int .i64 x130, .int .i64 1, .int .i64 2, .int .i64 1]) s137 rfl kk rfl rfl kk kk x64 kk kk (by simp) kk kk (.inl (by simp)) (fun w139 g140 x141 s142 => ?_)
  have x136 := Cur.grown x136 g140 (fun e9 => ne57 (Option.some.inj e9)) (fun j e => by cases e; exact Nat.le_trans hN lo56)
  have ho143 := own_grown ho138 g140 (fun j e1 e2 => by cases e2; exact nb60 e1.symm)
  refine F.es ?_
  have x6 := SM.blk s142 x6 (ne2 (fun e9 => ne9 (Option.some.inj e9).symm) (fun e9 => ne58 (Option.some.inj e9)))
  have x45 := SM.blk s142 x45 (ne2 (fun e9 => ne39 (Option.some.inj e9).symm) (fun e9 => ne59 (Option.some.inj e9)))
  have c144 := (SM.fr (B := B) c77 s142 (in2 (fun kq e => .inl (by cases e; rfl)) (fun kq e => .inr (by cases e; exact lo56))))
  refine h9 _ _ ?_
  refine M.region_plain (row := [(Value.ownBlock (.slice A13 n14 c15)), (some b32)]) [(0, false), (1, true), (2, false), (3, true), (4, true), (5, false), (6, true)] kk ?_
  have s145 := SM.self w139 [(Value.ownBlock (.slice A13 n14 c15)), (some b32)]
  refine Fq (.pointer (some ⟨b32, 1, none⟩)) (r_field (k := 1) rfl ek kk) ?_
  refine W.slq (v := .slice A13 n14 c15) s145 rfl (r_load rfl kk kk (eqS (blk_cell (j := 1) x45 kk))) kk rfl ?_
  refine F.nx ?_
  refine Fq (.agg #[.int .i64 x130, .int .i64 1, .int .i64 2, .int .i64 1]) (r_load4 rfl ek kk kk (smS (blk_cell (j := 0) x141 kk) (ne2 nb60 (fun e9 => ne59 (Option.some.inj e9).symm))) (smS (blk_cell (j := 1) x141 kk) (ne2 nb60 (fun e9 => ne59 (Option.some.inj e9).symm))) (smS (blk_cell (j := 2) x141 kk) (ne2 nb60 (fun e9 => ne59 (Option.some.inj e9).symm))) (smS (blk_cell (j := 3) x141 kk) (ne2 nb60 (fun e9 => ne59 (Option.some.inj e9).symm)))) ?_
  refine M.sn (fun b => .slice (some ⟨b, 0, none⟩) 1 1) #[.int .i64 x130, .int .i64 1, .int .i64 2, .int .i64 1] 51 s145 rfl kk rfl (fun _ => by kernel_rfl) (fun b146 w147 hb148 k149 x150 s151 => ?_)
  refine F.nx ?_
  have lo152 : w.heap.size ≤ b146 := Nat.le_trans ((SM.fr (B := B) c144 s145 (in2 (fun kq e => .inr (World.ownsRow.lt ho143 kq e).1) (fun kq e => .inr (by cases e; exact lo38))))).size (Nat.le_of_eq hb148)
  have x45 := (k149.block _ (blk_lt x45)).trans x45
  have ho159 := own_kept ho143 k149
  refine M.sap (e := 51) (size := 4) (base := w.heap.size) (m := 1) (v := .slice A13 n14 c15) (c := 1) s151 rfl rfl rfl rfl kk kk kk ho159 x150 kk kk (by omega) (by omega) (by have := ((SM.fr (B := B) c144 s151 (in2 (fun kq e => .inr (World.ownsRow.lt ho143 kq e).1) (fun kq e => .inr (by cases e; exact lo38))))).size; omega) (.inl (by simp)) (fun g160 cap161 w162 ho163 hg164 hat165 hlt166 s167 => ?_)
  refine F.nx ?_
  have nb169 : Nb b2 (.slice (some ⟨g160, 0, none⟩) (n14 + 1) cap161) := nb_app nb31 (Nat.lt_of_lt_of_le (blk_lt x6) (s151).size) hat165
  have nb170 : Nb b32 (.slice (some ⟨g160, 0, none⟩) (n14 + 1) cap161) := nb_app nb41 (blk_lt x45) hat165
  have x45 := (hg164.block _ (blk_lt x45) nb41).trans x45
  have ho163 := own_snocP (x := (Pp.mk x130 1 2 1)) ho163
  refine Fq (.pointer (some ⟨b32, 1, none⟩)) (r_field (k := 1) rfl ek kk) ?_
  refine M.ss (v := .slice (some ⟨g160, 0, none⟩) (n14 + 1) cap161) (j := 1) (news := [.slice (some ⟨g160, 0, none⟩) (n14 + 1) cap161]) (cs' := #[.int .i64 m12, .slice (some ⟨g160, 0, none⟩) (n14 + 1) cap161]) s167 rfl kk rfl rfl kk kk x45 kk kk (by simp) kk kk (.inl (by simp)) (fun w174 g175 x176 s177 => ?_)
  have ho178 := own_grown ho163 g175 (fun j e1 e2 => by cases e2; exact nb170 e1.symm)
  refine F.es ?_
  have x136 := Cur.sm x136 s177 (ne2 nb30 (fun e9 => ne39 (Option.some.inj e9))) (in2 (fun j e => Nat.le_trans hN (World.ownsRow.lt ho143 j e).1) (fun j e => by cases e; exact Nat.le_trans hN lo38))
  have x6 := SM.blk s177 x6 (ne2 nb31 (fun e9 => ne40 (Option.some.inj e9)))
  have c179 := (SM.fr (B := B) c144 s177 (in2 (fun kq e => .inr (World.ownsRow.lt ho143 kq e).1) (fun kq e => .inr (by cases e; exact lo38))))
  refine h4 _ _ ?_
  refine wk fun K10 h10 => ?_
  refine W.region_plain (row := (some b2)) [(0, false), (1, true)] kk ?_
  have s180 := SG.self w174 (some b2)
  refine Fq (.agg #[.int .i64 m12, .slice (some ⟨g160, 0, none⟩) (n14 + 1) cap161]) (r_load2 rfl ek kk kk (sgS (blk_cell (j := 0) x176 kk) (fun e9 => ne40 (Option.some.inj e9).symm)) (sgS (blk_cell (j := 1) x176 kk) (fun e9 => ne40 (Option.some.inj e9).symm))) ?_
  refine W.ss (v := .agg #[.int .i64 m12, .slice (some ⟨g160, 0, none⟩) (n14 + 1) cap161]) (j := 0) (news := [.int .i64 m12, .slice (some ⟨g160, 0, none⟩) (n14 + 1) cap161]) (cs' := #[.int .i64 m12, .slice (some ⟨g160, 0, none⟩) (n14 + 1) cap161]) s180 rfl kk rfl rfl kk kk x6 kk kk (by simp) kk kk (.inl rfl) (fun w181 g182 x183 s184 => ?_)
  have ho185 := own_grown ho178 g182 (fun j e1 e2 => by cases e2; exact nb169 e1.symm)
  refine F.es ?_
  have x136 := Cur.grown x136 s184 (fun e9 => ne9 (Option.some.inj e9)) (fun j e => by cases e; exact Nat.le_trans hN lo8)
  have c186 := (SG.fr (B := B) c179 s184 (fun kq e => .inr (by cases e; exact lo8)))
  refine h10 _ _ ?_
  refine wp_ret ?_
  try simp only [Exit.then]
  refine retC rfl rfl kk kk x183 ?_
  exact ⟨_, _, _, _, (ps16 ++ [(Pp.mk x130 1 2 1)]), rfl, ⟨ho185, ⟨by omega, by omega⟩, by rw [snoc_len]; omega, sm_snoc hsm18.2.2 (sm_mk (by omega))⟩, Cur.mono x136 (by omega), c186⟩
 refine Fq (.bool false) (r_eql (m := x69) (n := 1) rfl ek ek (decide_eq_false q115)) ?_
 refine Fa (.bool false) ?_
 refine F.es ?_
 refine h8 _ _ ?_
 refine wp_cond_false ek ?_
 refine wk fun K11 h11 => ?_
 refine W.region_quiet [(0, false), (1, false)] kk ?_
 by_cases q187 : (x69 : Int) = (2 : Int)
 ·refine Fq (.bool true) (r_eql (m := x69) (n := 2) rfl ek ek (decide_eq_true q187)) ?_
  refine Fa (.bool true) ?_
  refine F.es ?_
  refine h11 _ _ ?_
  refine wp_cond_true ek ?_
  refine wk fun K12 h12 => ?_
  refine M.region_plain (row := [(some B), (some b50)]) [(0, false), (1, true), (2, true), (3, false), (4, true)] kk ?_
  have s188 := SM.self w72 [(some B), (some b50)]
  refine Fv (.pointer (some ⟨B, 0, none⟩)) ?_
  refine M.sn (fun b => .slice (some ⟨b, 0, none⟩) 2 2) #[.int .i64 0, .int .i64 10] 3 s188 rfl kk rfl (fun _ => by kernel_rfl) (fun b189 w190 hb191 k192 x193 s194 => ?_)
  refine F.nx ?_
  have lo195 : w.heap.size ≤ b189 := Nat.le_trans ((SM.fr (B := B) c77 s188 (in2 (fun kq e => .inl (by cases e; rfl)) (fun kq e => .inr (by cases e; exact lo56))))).size (Nat.le_of_eq hb191)
  have ne196 : B ≠ b189 := Nat.ne_of_lt (Nat.lt_of_lt_of_eq (Cur.lt x74) hb191)
  have x74 := Cur.below x74 k192
  have x64 := (k192.block _ (blk_lt x64)).trans x64
  have ho201 := own_kept ho76 k192
  refine Fc [.pointer (some ⟨B, 0, none⟩), .slice (some ⟨b189, 0, none⟩) 2 2] (among_any B N ((k + 300) + 2) (some ⟨b189, 0, none⟩) 2 2 [0, 10] _ x74 (by omega) (rd_blk x193 rfl rfl) (sp_ne (by have := ne196; omega)) (by omega)) ?_
  rintro e w206 ⟨x202, rfl, hx203, x208, g207⟩
  have s209 := SM.of_grown s194 g207 (.inl (by simp))
  refine ⟨_, rfl, s209, ?_⟩
  refine F.nx ?_
  have x64 := (g207.block _ (blk_lt x64) (fun e9 => ne57 (Option.some.inj e9).symm)).trans x64
  have ho210 := own_grown ho201 g207 (fun j e1 e2 => by cases e2; exact nb30 e1.symm)
  have hb204 := bnd_of (0) 10 hx203 (by decide)
  refine Fq (.pointer (some ⟨b50, 3, none⟩)) (r_field (k := 3) rfl ek kk) ?_
  refine M.ss (v := .int .i64 x202) (j := 3) (news := [.int .i64 x202]) (cs' := #[.int .i64 99, .int .i64 1, .int .i64 2, .int .i64 x202]) s209 rfl kk rfl rfl kk kk x64 kk kk (by simp) kk kk (.inl (by simp)) (fun w211 g212 x213 s214 => ?_)
  have x208 := Cur.grown x208 g212 (fun e9 => ne57 (Option.some.inj e9)) (fun j e => by cases e; exact Nat.le_trans hN lo56)
  have ho215 := own_grown ho210 g212 (fun j e1 e2 => by cases e2; exact nb60 e1.symm)
  refine F.es ?_
  have x6 := SM.blk s214 x6 (ne2 (fun e9 => ne9 (Option.some.inj e9).symm) (fun e9 => ne58 (Option.some.inj e9)))
  have x45 := SM.blk s214 x45 (ne2 (fun e9 => ne39 (Option.some.inj e9).symm) (fun e9 => ne59 (Option.some.inj e9)))
  have c216 := (SM.fr (B := B) c77 s214 (in2 (fun kq e => .inl (by cases e; rfl)) (fun kq e => .inr (by cases e; exact lo56))))
  refine h12 _ _ ?_
  refine M.region_plain (row := [(Value.ownBlock (.slice A13 n14 c15)), (some b32)]) [(0, false), (1, true), (2, false), (3, true), (4, true), (5, false), (6, true)] kk ?_
  have s217 := SM.self w211 [(Value.ownBlock (.slice A13 n14 c15)), (some b32)]
  refine Fq (.pointer (some ⟨b32, 1, none⟩)) (r_field (k := 1) rfl ek kk) ?_
  refine W.slq (v := .slice A13 n14 c15) s217 rfl (r_load rfl kk kk (eqS (blk_cell (j := 1) x45 kk))) kk rfl ?_
  refine F.nx ?_
  refine Fq (.agg #[.int .i64 99, .int .i64 1, .int .i64 2, .int .i64 x202]) (r_load4 rfl ek kk kk (smS (blk_cell (j := 0) x213 kk) (ne2 nb60 (fun e9 => ne59 (Option.some.inj e9).symm))) (smS (blk_cell (j := 1) x213 kk) (ne2 nb60 (fun e9 => ne59 (Option.some.inj e9).symm))) (smS (blk_cell (j := 2) x213 kk) (ne2 nb60 (fun e9 => ne59 (Option.some.inj e9).symm))) (smS (blk_cell (j := 3) x213 kk) (ne2 nb60 (fun e9 => ne59 (Option.some.inj e9).symm)))) ?_
  refine M.sn (fun b => .slice (some ⟨b, 0, none⟩) 1 1) #[.int .i64 99, .int .i64 1, .int .i64 2, .int .i64 x202] 51 s217 rfl kk rfl (fun _ => by kernel_rfl) (fun b218 w219 hb220 k221 x222 s223 => ?_)
  refine F.nx ?_
  have lo224 : w.heap.size ≤ b218 := Nat.le_trans ((SM.fr (B := B) c216 s217 (in2 (fun kq e => .inr (World.ownsRow.lt ho215 kq e).1) (fun kq e => .inr (by cases e; exact lo38))))).size (Nat.le_of_eq hb220)
  have x45 := (k221.block _ (blk_lt x45)).trans x45
  have ho231 := own_kept ho215 k221
  refine M.sap (e := 51) (size := 4) (base := w.heap.size) (m := 1) (v := .slice A13 n14 c15) (c := 1) s223 rfl rfl rfl rfl kk kk kk ho231 x222 kk kk (by omega) (by omega) (by have := ((SM.fr (B := B) c216 s223 (in2 (fun kq e => .inr (World.ownsRow.lt ho215 kq e).1) (fun kq e => .inr (by cases e; exact lo38))))).size; omega) (.inl (by simp)) (fun g232 cap233 w234 ho235 hg236 hat237 hlt238 s239 => ?_)
  refine F.nx ?_
  have nb241 : Nb b2 (.slice (some ⟨g232, 0, none⟩) (n14 + 1) cap233) := nb_app nb31 (Nat.lt_of_lt_of_le (blk_lt x6) (s223).size) hat237
  have nb242 : Nb b32 (.slice (some ⟨g232, 0, none⟩) (n14 + 1) cap233) := nb_app nb41 (blk_lt x45) hat237
  have x45 := (hg236.block _ (blk_lt x45) nb41).trans x45
  have ho235 := own_snocP (x := (Pp.mk 99 1 2 x202)) ho235
  refine Fq (.pointer (some ⟨b32, 1, none⟩)) (r_field (k := 1) rfl ek kk) ?_
  refine M.ss (v := .slice (some ⟨g232, 0, none⟩) (n14 + 1) cap233) (j := 1) (news := [.slice (some ⟨g232, 0, none⟩) (n14 + 1) cap233]) (cs' := #[.int .i64 m12, .slice (some ⟨g232, 0, none⟩) (n14 + 1) cap233]) s239 rfl kk rfl rfl kk kk x45 kk kk (by simp) kk kk (.inl (by simp)) (fun w246 g247 x248 s249 => ?_)
  have ho250 := own_grown ho235 g247 (fun j e1 e2 => by cases e2; exact nb242 e1.symm)
  refine F.es ?_
  have x208 := Cur.sm x208 s249 (ne2 nb30 (fun e9 => ne39 (Option.some.inj e9))) (in2 (fun j e => Nat.le_trans hN (World.ownsRow.lt ho215 j e).1) (fun j e => by cases e; exact Nat.le_trans hN lo38))
  have x6 := SM.blk s249 x6 (ne2 nb31 (fun e9 => ne40 (Option.some.inj e9)))
  have c251 := (SM.fr (B := B) c216 s249 (in2 (fun kq e => .inr (World.ownsRow.lt ho215 kq e).1) (fun kq e => .inr (by cases e; exact lo38))))
  refine h4 _ _ ?_
  refine wk fun K13 h13 => ?_
  refine W.region_plain (row := (some b2)) [(0, false), (1, true)] kk ?_
  have s252 := SG.self w246 (some b2)
  refine Fq (.agg #[.int .i64 m12, .slice (some ⟨g232, 0, none⟩) (n14 + 1) cap233]) (r_load2 rfl ek kk kk (sgS (blk_cell (j := 0) x248 kk) (fun e9 => ne40 (Option.some.inj e9).symm)) (sgS (blk_cell (j := 1) x248 kk) (fun e9 => ne40 (Option.some.inj e9).symm))) ?_
  refine W.ss (v := .agg #[.int .i64 m12, .slice (some ⟨g232, 0, none⟩) (n14 + 1) cap233]) (j := 0) (news := [.int .i64 m12, .slice (some ⟨g232, 0, none⟩) (n14 + 1) cap233]) (cs' := #[.int .i64 m12, .slice (some ⟨g232, 0, none⟩) (n14 + 1) cap233]) s252 rfl kk rfl rfl kk kk x6 kk kk (by simp) kk kk (.inl rfl) (fun w253 g254 x255 s256 => ?_)
  have ho257 := own_grown ho250 g254 (fun j e1 e2 => by cases e2; exact nb241 e1.symm)
  refine F.es ?_
  have x208 := Cur.grown x208 s256 (fun e9 => ne9 (Option.some.inj e9)) (fun j e => by cases e; exact Nat.le_trans hN lo8)
  have c258 := (SG.fr (B := B) c251 s256 (fun kq e => .inr (by cases e; exact lo8)))
  refine h13 _ _ ?_
  refine wp_ret ?_
  try simp only [Exit.then]
  refine retC rfl rfl kk kk x255 ?_
  exact ⟨_, _, _, _, (ps16 ++ [(Pp.mk 99 1 2 x202)]), rfl, ⟨ho257, ⟨by omega, by omega⟩, by rw [snoc_len]; omega, sm_snoc hsm18.2.2 (sm_mk (by omega))⟩, Cur.mono x208 (by omega), c258⟩
 refine Fq (.bool false) (r_eql (m := x69) (n := 2) rfl ek ek (decide_eq_false q187)) ?_
 refine Fa (.bool false) ?_
 refine F.es ?_
 refine h11 _ _ ?_
 refine wp_cond_false ek ?_
 refine wk fun K14 h14 => ?_
 refine W.region_quiet [(0, false), (1, false)] kk ?_
 by_cases q259 : (x69 : Int) = (3 : Int)
 ·refine Fq (.bool true) (r_eql (m := x69) (n := 3) rfl ek ek (decide_eq_true q259)) ?_
  refine Fa (.bool true) ?_
  refine F.es ?_
  refine h14 _ _ ?_
  refine wp_cond_true ek ?_
  refine wk fun K15 h15 => ?_
  refine M.region_plain (row := [(some B), (some b50)]) [(0, false), (1, true), (2, true), (3, false), (4, true)] kk ?_
  have s260 := SM.self w72 [(some B), (some b50)]
  refine Fv (.pointer (some ⟨B, 0, none⟩)) ?_
  refine M.sn (fun b => .slice (some ⟨b, 0, none⟩) 3 3) #[.int .i64 1, .int .i64 9, .int .i64 0] 3 s260 rfl kk rfl (fun _ => by kernel_rfl) (fun b261 w262 hb263 k264 x265 s266 => ?_)
  refine F.nx ?_
  have lo267 : w.heap.size ≤ b261 := Nat.le_trans ((SM.fr (B := B) c77 s260 (in2 (fun kq e => .inl (by cases e; rfl)) (fun kq e => .inr (by cases e; exact lo56))))).size (Nat.le_of_eq hb263)
  have ne268 : B ≠ b261 := Nat.ne_of_lt (Nat.lt_of_lt_of_eq (Cur.lt x74) hb263)
  have x74 := Cur.below x74 k264
  have x64 := (k264.block _ (blk_lt x64)).trans x64
  have ho273 := own_kept ho76 k264
  refine Fc [.pointer (some ⟨B, 0, none⟩), .slice (some ⟨b261, 0, none⟩) 3 3] (among_any B N ((k + 300) + 2) (some ⟨b261, 0, none⟩) 3 3 [1, 9, 0] _ x74 (by omega) (rd_blk x265 rfl rfl) (sp_ne (by have := ne268; omega)) (by omega)) ?_
  rintro e w278 ⟨x274, rfl, hx275, x280, g279⟩
  have s281 := SM.of_grown s266 g279 (.inl (by simp))
  refine ⟨_, rfl, s281, ?_⟩
  refine F.nx ?_
  have x64 := (g279.block _ (blk_lt x64) (fun e9 => ne57 (Option.some.inj e9).symm)).trans x64
  have ho282 := own_grown ho273 g279 (fun j e1 e2 => by cases e2; exact nb30 e1.symm)
  have hb276 := bnd_of (0) 9 hx275 (by decide)
  refine Fq (.pointer (some ⟨b50, 2, none⟩)) (r_field (k := 2) rfl ek kk) ?_
  refine M.ss (v := .int .i64 x274) (j := 2) (news := [.int .i64 x274]) (cs' := #[.int .i64 99, .int .i64 1, .int .i64 x274, .int .i64 1]) s281 rfl kk rfl rfl kk kk x64 kk kk (by simp) kk kk (.inl (by simp)) (fun w283 g284 x285 s286 => ?_)
  have x280 := Cur.grown x280 g284 (fun e9 => ne57 (Option.some.inj e9)) (fun j e => by cases e; exact Nat.le_trans hN lo56)
  have ho287 := own_grown ho282 g284 (fun j e1 e2 => by cases e2; exact nb60 e1.symm)
  refine F.es ?_
  have x6 := SM.blk s286 x6 (ne2 (fun e9 => ne9 (Option.some.inj e9).symm) (fun e9 => ne58 (Option.some.inj e9)))
  have x45 := SM.blk s286 x45 (ne2 (fun e9 => ne39 (Option.some.inj e9).symm) (fun e9 => ne59 (Option.some.inj e9)))
  have c288 := (SM.fr (B := B) c77 s286 (in2 (fun kq e => .inl (by cases e; rfl)) (fun kq e => .inr (by cases e; exact lo56))))
  refine h15 _ _ ?_
  refine M.region_plain (row := [(Value.ownBlock (.slice A13 n14 c15)), (some b32)]) [(0, false), (1, true), (2, false), (3, true), (4, true), (5, false), (6, true)] kk ?_
  have s289 := SM.self w283 [(Value.ownBlock (.slice A13 n14 c15)), (some b32)]
  refine Fq (.pointer (some ⟨b32, 1, none⟩)) (r_field (k := 1) rfl ek kk) ?_
  refine W.slq (v := .slice A13 n14 c15) s289 rfl (r_load rfl kk kk (eqS (blk_cell (j := 1) x45 kk))) kk rfl ?_
  refine F.nx ?_
  refine Fq (.agg #[.int .i64 99, .int .i64 1, .int .i64 x274, .int .i64 1]) (r_load4 rfl ek kk kk (smS (blk_cell (j := 0) x285 kk) (ne2 nb60 (fun e9 => ne59 (Option.some.inj e9).symm))) (smS (blk_cell (j := 1) x285 kk) (ne2 nb60 (fun e9 => ne59 (Option.some.inj e9).symm))) (smS (blk_cell (j := 2) x285 kk) (ne2 nb60 (fun e9 => ne59 (Option.some.inj e9).symm))) (smS (blk_cell (j := 3) x285 kk) (ne2 nb60 (fun e9 => ne59 (Option.some.inj e9).symm)))) ?_
  refine M.sn (fun b => .slice (some ⟨b, 0, none⟩) 1 1) #[.int .i64 99, .int .i64 1, .int .i64 x274, .int .i64 1] 51 s289 rfl kk rfl (fun _ => by kernel_rfl) (fun b290 w291 hb292 k293 x294 s295 => ?_)
  refine F.nx ?_
  have lo296 : w.heap.size ≤ b290 := Nat.le_trans ((SM.fr (B := B) c288 s289 (in2 (fun kq e => .inr (World.ownsRow.lt ho287 kq e).1) (fun kq e => .inr (by cases e; exact lo38))))).size (Nat.le_of_eq hb292)
  have x45 := (k293.block _ (blk_lt x45)).trans x45
  have ho303 := own_kept ho287 k293
  refine M.sap (e := 51) (size := 4) (base := w.heap.size) (m := 1) (v := .slice A13 n14 c15) (c := 1) s295 rfl rfl rfl rfl kk kk kk ho303 x294 kk kk (by omega) (by omega) (by have := ((SM.fr (B := B) c288 s295 (in2 (fun kq e => .inr (World.ownsRow.lt ho287 kq e).1) (fun kq e => .inr (by cases e; exact lo38))))).size; omega) (.inl (by simp)) (fun g304 cap305 w306 ho307 hg308 hat309 hlt310 s311 => ?_)
  refine F.nx ?_
  have nb313 : Nb b2 (.slice (some ⟨g304, 0, none⟩) (n14 + 1) cap305) := nb_app nb31 (Nat.lt_of_lt_of_le (blk_lt x6) (s295).size) hat309
  have nb314 : Nb b32 (.slice (some ⟨g304, 0, none⟩) (n14 + 1) cap305) := nb_app nb41 (blk_lt x45) hat309
  have x45 := (hg308.block _ (blk_lt x45) nb41).trans x45
  have ho307 := own_snocP (x := (Pp.mk 99 1 x274 1)) ho307
  refine Fq (.pointer (some ⟨b32, 1, none⟩)) (r_field (k := 1) rfl ek kk) ?_
  refine M.ss (v := .slice (some ⟨g304, 0, none⟩) (n14 + 1) cap305) (j := 1) (news := [.slice (some ⟨g304, 0, none⟩) (n14 + 1) cap305]) (cs' := #[.int .i64 m12, .slice (some ⟨g304, 0, none⟩) (n14 + 1) cap305]) s311 rfl kk rfl rfl kk kk x45 kk kk (by simp) kk kk (.inl (by simp)) (fun w318 g319 x320 s321 => ?_)
  have ho322 := own_grown ho307 g319 (fun j e1 e2 => by cases e2; exact nb314 e1.symm)
  refine F.es ?_
  have x280 := Cur.sm x280 s321 (ne2 nb30 (fun e9 => ne39 (Option.some.inj e9))) (in2 (fun j e => Nat.le_trans hN (World.ownsRow.lt ho287 j e).1) (fun j e => by cases e; exact Nat.le_trans hN lo38))
  have x6 := SM.blk s321 x6 (ne2 nb31 (fun e9 => ne40 (Option.some.inj e9)))
  have c323 := (SM.fr (B := B) c288 s321 (in2 (fun kq e => .inr (World.ownsRow.lt ho287 kq e).1) (fun kq e => .inr (by cases e; exact lo38))))
  refine h4 _ _ ?_
  refine wk fun K16 h16 => ?_
  refine W.region_plain (row := (some b2)) [(0, false), (1, true)] kk ?_
  have s324 := SG.self w318 (some b2)
  refine Fq (.agg #[.int .i64 m12, .slice (some ⟨g304, 0, none⟩) (n14 + 1) cap305]) (r_load2 rfl ek kk kk (sgS (blk_cell (j := 0) x320 kk) (fun e9 => ne40 (Option.some.inj e9).symm)) (sgS (blk_cell (j := 1) x320 kk) (fun e9 => ne40 (Option.some.inj e9).symm))) ?_
  refine W.ss (v := .agg #[.int .i64 m12, .slice (some ⟨g304, 0, none⟩) (n14 + 1) cap305]) (j := 0) (news := [.int .i64 m12, .slice (some ⟨g304, 0, none⟩) (n14 + 1) cap305]) (cs' := #[.int .i64 m12, .slice (some ⟨g304, 0, none⟩) (n14 + 1) cap305]) s324 rfl kk rfl rfl kk kk x6 kk kk (by simp) kk kk (.inl rfl) (fun w325 g326 x327 s328 => ?_)
  have ho329 := own_grown ho322 g326 (fun j e1 e2 => by cases e2; exact nb313 e1.symm)
  refine F.es ?_
  have x280 := Cur.grown x280 s328 (fun e9 => ne9 (Option.some.inj e9)) (fun j e => by cases e; exact Nat.le_trans hN lo8)
  have c330 := (SG.fr (B := B) c323 s328 (fun kq e => .inr (by cases e; exact lo8)))
  refine h16 _ _ ?_
  refine wp_ret ?_
  try simp only [Exit.then]
  refine retC rfl rfl kk kk x327 ?_
  exact ⟨_, _, _, _, (ps16 ++ [(Pp.mk 99 1 x274 1)]), rfl, ⟨ho329, ⟨by omega, by omega⟩, by rw [snoc_len]; omega, sm_snoc hsm18.2.2 (sm_mk (by omega))⟩, Cur.mono x280 (by omega), c330⟩
 refine Fq (.bool false) (r_eql (m := x69) (n := 3) rfl ek ek (decide_eq_false q259)) ?_
 refine Fa (.bool false) ?_
 refine F.es ?_
 refine h14 _ _ ?_
 refine wp_cond_false ek ?_
 refine wk fun K17 h17 => ?_
 refine W.region_quiet [(0, false), (1, false)] kk ?_
 by_cases q331 : (x69 : Int) = (4 : Int)
 ·refine Fq (.bool true) (r_eql (m := x69) (n := 4) rfl ek ek (decide_eq_true q331)) ?_
  refine Fa (.bool true) ?_
  refine F.es ?_
  refine h17 _ _ ?_
  refine wp_cond_true ek ?_
  refine wk fun K18 h18 => ?_
  refine W.region_quiet [(0, false)] kk ?_
  refine Fa (.int .i64 0) ?_
  refine F.es ?_
  refine h18 _ _ ?_
  refine wp_block ?_
  refine loopK (fun am0 aa0 wl0 => ∃ (j : Nat) (qs : List Pp) (A0_c3_1 : Option Addr) (n0_c3_1 : Nat) (c0_c3_1 : Nat) , Kn aa0 [(0, .pointer (some ⟨B, 0, none⟩)), (2, .pointer (some ⟨b2, 0, none⟩)), (3, .pointer (some ⟨b32, 0, none⟩)), (4, .pointer (some ⟨b50, 0, none⟩)), (5, .int .i64 (j : Int)), (10, .int .i64 x69), (11, .bool false), (17, .bool false), (29, .bool false), (41, .bool false), (53, .bool true)] 80 ∧ (am0 = 13 - j) ∧ (j ≤ 12) ∧ (∀ p, p ∈ qs → smP p) ∧ (qs.length ≤ ps16.length + j) ∧ (Cur wl0 B N (k + 302 + 2 * j)) ∧ (wl0.heap[b2]? = some (.cells #[.int .i64 0, .slice none 0 0] 26 (0, 0))) ∧ (wl0.heap[b32]? = some (.cells #[.int .i64 m12, .slice A0_c3_1 n0_c3_1 c0_c3_1] 26 (0, 0))) ∧ (wl0.heap[b50]? = some (.cells #[.int .i64 99, .int .i64 1, .int .i64 2, .int .i64 1] 51 (0, 0))) ∧ (wl0.ownsRow w.heap.size 51 4 (.slice A0_c3_1 n0_c3_1 c0_c3_1) n0_c3_1 (pipesV qs)) ∧ (Nb B (.slice A0_c3_1 n0_c3_1 c0_c3_1)) ∧ (Nb b2 (.slice A0_c3_1 n0_c3_1 c0_c3_1)) ∧ (Nb b32 (.slice A0_c3_1 n0_c3_1 c0_c3_1)) ∧ (Nb b50 (.slice A0_c3_1 n0_c3_1 c0_c3_1)) ∧ (w.grownBy wl0 (some B))) (13 - 0) ?_ ?_
  ·exact ⟨0, ps16, A13, n14, c15, Kn.of, rfl, (by omega), hsm18.2.2, (by omega), (Cur.mono x74 (by omega)), x6, x45, x64, ho76, nb30, nb31, nb41, nb60, c77⟩
  rintro am0 aa0 wl0 K19 h19 ⟨j, qs, A0_c3_1, n0_c3_1, c0_c3_1, ⟨U0, rfl⟩, rfl, hj, hps1, hln1, x74, x6, x45, x64, ho0_c3_1, nb0_c3_1_B, nb0_c3_1_b2, nb0_c3_1_b32, nb0_c3_1_b50, c332⟩
  have hl09 := rd_pipes_len (own_rd ho0_c3_1)
  refine wk fun K20 h20 => ?_
  refine wk fun K21 h21 => ?_
  refine W.region_sch (row := (some B)) (Sch.of [(0, false), (1, false), (2, false), (3, false), (4, true), (5, false), (6, false), (7, false), (8, false), (9, false), (10, false)]) kk kk (fun _ d _ _ _ h => by cases d <;> exact h) kk (fun w333 e334 s335 => ?_)
  have ho336 := own_heap ho0_c3_1 e334
  have x337 := Cur.heap x74 e334
  refine Fq (.pointer (some ⟨b32, 1, none⟩)) (r_field (k := 1) rfl ek kk) ?_
  refine Fl (.slice A0_c3_1 n0_c3_1 c0_c3_1) (sgS (blk_cell (j := 1) x45 kk) (fun e9 => ne39 (Option.some.inj e9).symm)) ?_
  refine Fq (.int .i64 (n0_c3_1 : Int)) (r_len (A := A0_c3_1) (n := n0_c3_1) (c := c0_c3_1) rfl ek kk) ?_
  refine Fv (.pointer (some ⟨B, 0, none⟩)) ?_
  refine Fc [.pointer (some ⟨B, 0, none⟩), .int .i64 2] (pick_any B N (k + 302 + 2 * j) 2 _ x337 (by omega) (by omega)) ?_
  rintro e w341 ⟨x338, rfl, hx339, x343, g342⟩
  have s344 := SG.of_grown s335 g342 (.inl rfl)
  refine ⟨_, rfl, s344, ?_⟩
  refine F.nx ?_
  have ho345 := own_grown ho336 g342 (fun j e1 e2 => by cases e2; exact nb0_c3_1_B e1.symm)
  refine Fq (.int .i64 (10 + x338)) (r_add (m := 10) (n := x338) (z := 10 + x338) rfl ek ek (rfl) (by omega)) ?_
  by_cases q346 : ((n0_c3_1 : Int) : Int) < (10 + x338 : Int)
  ·refine Fq (.bool true) (r_lss (m := (n0_c3_1 : Int)) (n := 10 + x338) rfl ek ek (decide_eq_true q346)) ?_
   refine Fv (.bool true) ?_
   refine Fv (.int .i64 (j : Int)) ?_
   by_cases q347 : ((j : Int) : Int) < (12 : Int)
   ·refine Fq (.bool true) (r_lss (m := (j : Int)) (n := 12) rfl ek ek (decide_eq_true q347)) ?_
    refine Fq (.bool true) (r_pick (b := true) rfl ek ek) ?_
    refine F.es ?_
    have x6 := SG.blk s344 x6 (fun e9 => ne9 (Option.some.inj e9).symm)
    have x45 := SG.blk s344 x45 (fun e9 => ne39 (Option.some.inj e9).symm)
    have x64 := SG.blk s344 x64 (fun e9 => ne57 (Option.some.inj e9).symm)
    have c348 := (SG.fr (B := B) c332 s344 (fun kq e => .inl (by cases e; rfl)))
    refine h21 _ _ ?_
    refine wp_cond_true ek ?_
    refine wp_skip ?_
    refine h20 _ _ ?_
    refine wk fun K22 h22 => ?_
    refine wp_block ?_
    refine M.region_sch (row := [(Value.ownBlock (.slice A0_c3_1 n0_c3_1 c0_c3_1)), (some b32)]) (Sch.app [(0, false), (2, false), (3, false), (4, false)] (.br 1 5 (Sch.of [(5, true), (6, true), (7, false), (8, true), (9, true), (10, false), (11, true)]) (Sch.app [] (.br 1 6 (Sch.of [(6, true), (7, false), (8, true), (9, true), (10, false), (11, true)]) (Sch.app [(7, false)] (.br 1 8 (Sch.of [(8, true), (9, true), (10, false), (11, true)]) (Sch.of [(1, true), (9, true), (10, false), (11, true)]))))))) kk kk (fun _ d _ _ _ h => by cases d <;> exact h) kk (fun w349 e350 s351 => ?_)
    have ho352 := own_heap ho345 e350
    have x353 := (heap_same e350 x45)
    refine Fq (.pointer (some ⟨b32, 1, none⟩)) (r_field (k := 1) rfl ek kk) ?_
    refine Fv (.int .i64 (j : Int)) ?_
    refine Fq (.int .i64 (60 + (j : Int))) (r_add (m := 60) (n := (j : Int)) (z := 60 + (j : Int)) rfl ek ek (rfl) (by omega)) ?_
    refine Fq (.pointer (some ⟨b32, 0, none⟩)) (r_field0 rfl ek kk) ?_
    refine W.sbr ?_ ?_
    ·refine W.slq (v := .slice A0_c3_1 n0_c3_1 c0_c3_1) s351 rfl (r_load rfl kk kk (eqS (blk_cell (j := 1) x353 kk))) kk rfl ?_
     refine F.nx ?_
     refine W.slq (v := .int .i64 m12) s351 rfl (r_load rfl kk kk (eqS (blk_cell (j := 0) x353 kk))) kk rfl ?_
     refine F.nx ?_
     have hmo := mostI_is 2 m12
     refine Fc [.int .i64 2, .int .i64 m12] (l1Most_any 2 m12 _) ?_
     rintro e w355 ⟨rfl, b354⟩
     have s356 := SM.of_below s351 b354
     refine ⟨_, rfl, s356, ?_⟩
     refine F.nx ?_
     have x353 := (b354.block _ (blk_lt x353)).trans x353
     have ho357 := own_kept ho352 b354
     refine Fq (.agg #[.int .i64 (60 + (j : Int)), .int .i64 1, .int .i64 (mostI 2 m12), .int .i64 2]) (r_build rfl (vs := [(0, .int .i64 (60 + (j : Int))), (1, .int .i64 1), (2, .int .i64 (mostI 2 m12)), (3, .int .i64 2)]) kk kk) ?_
     refine M.sn (fun b => .slice (some ⟨b, 0, none⟩) 1 1) #[.int .i64 (60 + (j : Int)), .int .i64 1, .int .i64 (mostI 2 m12), .int .i64 2] 51 s356 rfl kk rfl (fun _ => by kernel_rfl) (fun b358 w359 hb360 k361 x362 s363 => ?_)
     refine F.nx ?_
     have lo364 : w.heap.size ≤ b358 := Nat.le_trans ((SM.fr (B := B) c348 s356 (in2 (fun kq e => .inr (World.ownsRow.lt ho345 kq e).1) (fun kq e => .inr (by cases e; exact lo38))))).size (Nat.le_of_eq hb360)
     have x353 := (k361.block _ (blk_lt x353)).trans x353
     have ho370 := own_kept ho357 k361
     refine M.sap (e := 51) (size := 4) (base := w.heap.size) (m := 1) (v := .slice A0_c3_1 n0_c3_1 c0_c3_1) (c := 1) s363 rfl rfl rfl rfl kk kk kk ho370 x362 kk kk (by omega) (by omega) (by have := ((SM.fr (B := B) c348 s363 (in2 (fun kq e => .inr (World.ownsRow.lt ho345 kq e).1) (fun kq e => .inr (by cases e; exact lo38))))).size; omega) (.inl (by simp)) (fun g371 cap372 w373 ho374 hg375 hat376 hlt377 s378 => ?_)
     refine F.nx ?_
     have nb379 : Nb B (.slice (some ⟨g371, 0, none⟩) (n0_c3_1 + 1) cap372) := nb_app nb0_c3_1_B (Nat.lt_of_lt_of_le (Cur.lt x343) (s363).size) hat376
     have nb380 : Nb b2 (.slice (some ⟨g371, 0, none⟩) (n0_c3_1 + 1) cap372) := nb_app nb0_c3_1_b2 (Nat.lt_of_lt_of_le (blk_lt x6) (s363).size) hat376
     have nb381 : Nb b32 (.slice (some ⟨g371, 0, none⟩) (n0_c3_1 + 1) cap372) := nb_app nb0_c3_1_b32 (blk_lt x353) hat376
     have x353 := (hg375.block _ (blk_lt x353) nb0_c3_1_b32).trans x353
     have nb382 : Nb b50 (.slice (some ⟨g371, 0, none⟩) (n0_c3_1 + 1) cap372) := nb_app nb0_c3_1_b50 (Nat.lt_of_lt_of_le (blk_lt x64) (s363).size) hat376
     have ho374 := own_snocP (x := (Pp.mk (60 + (j : Int)) 1 (mostI 2 m12) 2)) ho374
     refine Fq (.pointer (some ⟨b32, 1, none⟩)) (r_field (k := 1) rfl ek kk) ?_
     refine M.ss (v := .slice (some ⟨g371, 0, none⟩) (n0_c3_1 + 1) cap372) (j := 1) (news := [.slice (some ⟨g371, 0, none⟩) (n0_c3_1 + 1) cap372]) (cs' := #[.int .i64 m12, .slice (some ⟨g371, 0, none⟩) (n0_c3_1 + 1) cap372]) s378 rfl kk rfl rfl kk kk x353 kk kk (by simp) kk kk (.inl (by simp)) (fun w384 g385 x386 s387 => ?_)
     have ho388 := own_grown ho374 g385 (fun j e1 e2 => by cases e2; exact nb381 e1.symm)
     refine F.es ?_
     have x343 := Cur.sm x343 s387 (ne2 nb0_c3_1_B (fun e9 => ne39 (Option.some.inj e9))) (in2 (fun j e => Nat.le_trans hN (World.ownsRow.lt ho345 j e).1) (fun j e => by cases e; exact Nat.le_trans hN lo38))
     have x6 := SM.blk s387 x6 (ne2 nb0_c3_1_b2 (fun e9 => ne40 (Option.some.inj e9)))
     have x64 := SM.blk s387 x64 (ne2 nb0_c3_1_b50 (fun e9 => ne59 (Option.some.inj e9).symm))
     have c389 := (SM.fr (B := B) c348 s387 (in2 (fun kq e => .inr (World.ownsRow.lt ho345 kq e).1) (fun kq e => .inr (by cases e; exact lo38))))
     refine h22 _ _ ?_
     refine W.region_quiet [(0, false), (1, false), (2, false)] kk ?_
     refine Fv (.int .i64 (j : Int)) ?_
     refine Fq (.int .i64 ((j + 1 : Nat) : Int)) (r_add (m := (j : Int)) (n := 1) (z := ((j + 1 : Nat) : Int)) rfl ek ek (by omega) (by omega)) ?_
     refine Fa (.int .i64 ((j + 1 : Nat) : Int)) ?_
     refine F.es ?_
     exact h19 _ _ _ (by omega : (13 - (j + 1)) < _) ⟨j + 1, (qs ++ [(Pp.mk (60 + (j : Int)) 1 (mostI 2 m12) 2)]), (some ⟨g371, 0, none⟩), (n0_c3_1 + 1), cap372, Kn.of, rfl, (by omega), (sm_snoc hps1 (sm_mk (by omega))), (by rw [snoc_len]; omega), (Cur.mono x343 (by omega)), x6, x386, x64, ho388, nb379, nb380, nb381, nb382, c389⟩
    refine W.slq (v := .int .i64 m12) s351 rfl (r_load rfl kk kk (eqS (blk_cell (j := 0) x353 kk))) kk rfl ?_
    refine F.nx ?_
    refine W.sbr ?_ ?_
    ·refine W.slq (v := .slice A0_c3_1 n0_c3_1 c0_c3_1) s351 rfl (r_load rfl kk kk (eqS (blk_cell (j := 1) x353 kk))) kk rfl ?_
     refine F.nx ?_
     have hmo := mostI_is 2 m12
     refine Fc [.int .i64 2, .int .i64 m12] (l1Most_any 2 m12 _) ?_
     rintro e w391 ⟨rfl, b390⟩
     have s392 := SM.of_below s351 b390
     refine ⟨_, rfl, s392, ?_⟩
     refine F.nx ?_
     have x353 := (b390.block _ (blk_lt x353)).trans x353
     have ho393 := own_kept ho352 b390
     refine Fq (.agg #[.int .i64 (60 + (j : Int)), .int .i64 1, .int .i64 (mostI 2 m12), .int .i64 2]) (r_build rfl (vs := [(0, .int .i64 (60 + (j : Int))), (1, .int .i64 1), (2, .int .i64 (mostI 2 m12)), (3, .int .i64 2)]) kk kk) ?_
     refine M.sn (fun b => .slice (some ⟨b, 0, none⟩) 1 1) #[.int .i64 (60 + (j : Int)), .int .i64 1, .int .i64 (mostI 2 m12), .int .i64 2] 51 s392 rfl kk rfl (fun _ => by kernel_rfl) (fun b394 w395 hb396 k397 x398 s399 => ?_)
     refine F.nx ?_
     have lo400 : w.heap.size ≤ b394 := Nat.le_trans ((SM.fr (B := B) c348 s392 (in2 (fun kq e => .inr (World.ownsRow.lt ho345 kq e).1) (fun kq e => .inr (by cases e; exact lo38))))).size (Nat.le_of_eq hb396)
     have x353 := (k397.block _ (blk_lt x353)).trans x353
     have ho406 := own_kept ho393 k397
     refine M.sap (e := 51) (size := 4) (base := w.heap.size) (m := 1) (v := .slice A0_c3_1 n0_c3_1 c0_c3_1) (c := 1) s399 rfl rfl rfl rfl kk kk kk ho406 x398 kk kk (by omega) (by omega) (by have := ((SM.fr (B := B) c348 s399 (in2 (fun kq e => .inr (World.ownsRow.lt ho345 kq e).1) (fun kq e => .inr (by cases e; exact lo38))))).size; omega) (.inl (by simp)) (fun g407 cap408 w409 ho410 hg411 hat412 hlt413 s414 => ?_)
     refine F.nx ?_
     have nb415 : Nb B (.slice (some ⟨g407, 0, none⟩) (n0_c3_1 + 1) cap408) := nb_app nb0_c3_1_B (Nat.lt_of_lt_of_le (Cur.lt x343) (s399).size) hat412
     have nb416 : Nb b2 (.slice (some ⟨g407, 0, none⟩) (n0_c3_1 + 1) cap408) := nb_app nb0_c3_1_b2 (Nat.lt_of_lt_of_le (blk_lt x6) (s399).size) hat412
     have nb417 : Nb b32 (.slice (some ⟨g407, 0, none⟩) (n0_c3_1 + 1) cap408) := nb_app nb0_c3_1_b32 (blk_lt x353) hat412
     have x353 := (hg411.block _ (blk_lt x353) nb0_c3_1_b32).trans x353
     have nb418 : Nb b50 (.slice (some ⟨g407, 0, none⟩) (n0_c3_1 + 1) cap408) := nb_app nb0_c3_1_b50 (Nat.lt_of_lt_of_le (blk_lt x64) (s399).size) hat412
     have ho410 := own_snocP (x := (Pp.mk (60 + (j : Int)) 1 (mostI 2 m12) 2)) ho410
     refine Fq (.pointer (some ⟨b32, 1, none⟩)) (r_field (k := 1) rfl ek kk) ?_
     refine M.ss (v := .slice (some ⟨g407, 0, none⟩) (n0_c3_1 + 1) cap408) (j := 1) (news := [.slice (some ⟨g407, 0, none⟩) (n0_c3_1 + 1) cap408]) (cs' := #[.int .i64 m12, .slice (some ⟨g407, 0, none⟩) (n0_c3_1 + 1) cap408]) s414 rfl kk rfl rfl kk kk x353 kk kk (by simp) kk kk (.inl (by simp)) (fun w420 g421 x422 s423 => ?_)
     have ho424 := own_grown ho410 g421 (fun j e1 e2 => by cases e2; exact nb417 e1.symm)
     refine F.es ?_
     have x343 := Cur.sm x343 s423 (ne2 nb0_c3_1_B (fun e9 => ne39 (Option.some.inj e9))) (in2 (fun j e => Nat.le_trans hN (World.ownsRow.lt ho345 j e).1) (fun j e => by cases e; exact Nat.le_trans hN lo38))
     have x6 := SM.blk s423 x6 (ne2 nb0_c3_1_b2 (fun e9 => ne40 (Option.some.inj e9)))
     have x64 := SM.blk s423 x64 (ne2 nb0_c3_1_b50 (fun e9 => ne59 (Option.some.inj e9).symm))
     have c425 := (SM.fr (B := B) c348 s423 (in2 (fun kq e => .inr (World.ownsRow.lt ho345 kq e).1) (fun kq e => .inr (by cases e; exact lo38))))
     refine h22 _ _ ?_
     refine W.region_quiet [(0, false), (1, false), (2, false)] kk ?_
     refine Fv (.int .i64 (j : Int)) ?_
     refine Fq (.int .i64 ((j + 1 : Nat) : Int)) (r_add (m := (j : Int)) (n := 1) (z := ((j + 1 : Nat) : Int)) rfl ek ek (by omega) (by omega)) ?_
     refine Fa (.int .i64 ((j + 1 : Nat) : Int)) ?_
     refine F.es ?_
     exact h19 _ _ _ (by omega : (13 - (j + 1)) < _) ⟨j + 1, (qs ++ [(Pp.mk (60 + (j : Int)) 1 (mostI 2 m12) 2)]), (some ⟨g407, 0, none⟩), (n0_c3_1 + 1), cap408, Kn.of, rfl, (by omega), (sm_snoc hps1 (sm_mk (by omega))), (by rw [snoc_len]; omega), (Cur.mono x343 (by omega)), x6, x422, x64, ho424, nb415, nb416, nb417, nb418, c425⟩
    have hmo := mostI_is 2 m12
    refine Fc [.int .i64 2, .int .i64 m12] (l1Most_any 2 m12 _) ?_
    rintro e w427 ⟨rfl, b426⟩
    have s428 := SM.of_below s351 b426
    refine ⟨_, rfl, s428, ?_⟩
    refine F.nx ?_
    have x353 := (b426.block _ (blk_lt x353)).trans x353
    have ho429 := own_kept ho352 b426
    refine Fq (.agg #[.int .i64 (60 + (j : Int)), .int .i64 1, .int .i64 (mostI 2 m12), .int .i64 2]) (r_build rfl (vs := [(0, .int .i64 (60 + (j : Int))), (1, .int .i64 1), (2, .int .i64 (mostI 2 m12)), (3, .int .i64 2)]) kk kk) ?_
    refine W.sbr ?_ ?_
    ·refine W.slq (v := .slice A0_c3_1 n0_c3_1 c0_c3_1) s428 rfl (r_load rfl kk kk (eqS (blk_cell (j := 1) x353 kk))) kk rfl ?_
     refine F.nx ?_
     refine M.sn (fun b => .slice (some ⟨b, 0, none⟩) 1 1) #[.int .i64 (60 + (j : Int)), .int .i64 1, .int .i64 (mostI 2 m12), .int .i64 2] 51 s428 rfl kk rfl (fun _ => by kernel_rfl) (fun b430 w431 hb432 k433 x434 s435 => ?_)
     refine F.nx ?_
     have lo436 : w.heap.size ≤ b430 := Nat.le_trans ((SM.fr (B := B) c348 s428 (in2 (fun kq e => .inr (World.ownsRow.lt ho345 kq e).1) (fun kq e => .inr (by cases e; exact lo38))))).size (Nat.le_of_eq hb432)
     have x353 := (k433.block _ (blk_lt x353)).trans x353
     have ho442 := own_kept ho429 k433
     refine M.sap (e := 51) (size := 4) (base := w.heap.size) (m := 1) (v := .slice A0_c3_1 n0_c3_1 c0_c3_1) (c := 1) s435 rfl rfl rfl rfl kk kk kk ho442 x434 kk kk (by omega) (by omega) (by have := ((SM.fr (B := B) c348 s435 (in2 (fun kq e => .inr (World.ownsRow.lt ho345 kq e).1) (fun kq e => .inr (by cases e; exact lo38))))).size; omega) (.inl (by simp)) (fun g443 cap444 w445 ho446 hg447 hat448 hlt449 s450 => ?_)
     refine F.nx ?_
     have nb451 : Nb B (.slice (some ⟨g443, 0, none⟩) (n0_c3_1 + 1) cap444) := nb_app nb0_c3_1_B (Nat.lt_of_lt_of_le (Cur.lt x343) (s435).size) hat448
     have nb452 : Nb b2 (.slice (some ⟨g443, 0, none⟩) (n0_c3_1 + 1) cap444) := nb_app nb0_c3_1_b2 (Nat.lt_of_lt_of_le (blk_lt x6) (s435).size) hat448
     have nb453 : Nb b32 (.slice (some ⟨g443, 0, none⟩) (n0_c3_1 + 1) cap444) := nb_app nb0_c3_1_b32 (blk_lt x353) hat448
     have x353 := (hg447.block _ (blk_lt x353) nb0_c3_1_b32).trans x353
     have nb454 : Nb b50 (.slice (some ⟨g443, 0, none⟩) (n0_c3_1 + 1) cap444) := nb_app nb0_c3_1_b50 (Nat.lt_of_lt_of_le (blk_lt x64) (s435).size) hat448
     have ho446 := own_snocP (x := (Pp.mk (60 + (j : Int)) 1 (mostI 2 m12) 2)) ho446
     refine Fq (.pointer (some ⟨b32, 1, none⟩)) (r_field (k := 1) rfl ek kk) ?_
     refine M.ss (v := .slice (some ⟨g443, 0, none⟩) (n0_c3_1 + 1) cap444) (j := 1) (news := [.slice (some ⟨g443, 0, none⟩) (n0_c3_1 + 1) cap444]) (cs' := #[.int .i64 m12, .slice (some ⟨g443, 0, none⟩) (n0_c3_1 + 1) cap444]) s450 rfl kk rfl rfl kk kk x353 kk kk (by simp) kk kk (.inl (by simp)) (fun w456 g457 x458 s459 => ?_)
     have ho460 := own_grown ho446 g457 (fun j e1 e2 => by cases e2; exact nb453 e1.symm)
     refine F.es ?_
     have x343 := Cur.sm x343 s459 (ne2 nb0_c3_1_B (fun e9 => ne39 (Option.some.inj e9))) (in2 (fun j e => Nat.le_trans hN (World.ownsRow.lt ho345 j e).1) (fun j e => by cases e; exact Nat.le_trans hN lo38))
     have x6 := SM.blk s459 x6 (ne2 nb0_c3_1_b2 (fun e9 => ne40 (Option.some.inj e9)))
     have x64 := SM.blk s459 x64 (ne2 nb0_c3_1_b50 (fun e9 => ne59 (Option.some.inj e9).symm))
     have c461 := (SM.fr (B := B) c348 s459 (in2 (fun kq e => .inr (World.ownsRow.lt ho345 kq e).1) (fun kq e => .inr (by cases e; exact lo38))))
     refine h22 _ _ ?_
     refine W.region_quiet [(0, false), (1, false), (2, false)] kk ?_
     refine Fv (.int .i64 (j : Int)) ?_
     refine Fq (.int .i64 ((j + 1 : Nat) : Int)) (r_add (m := (j : Int)) (n := 1) (z := ((j + 1 : Nat) : Int)) rfl ek ek (by omega) (by omega)) ?_
     refine Fa (.int .i64 ((j + 1 : Nat) : Int)) ?_
     refine F.es ?_
     exact h19 _ _ _ (by omega : (13 - (j + 1)) < _) ⟨j + 1, (qs ++ [(Pp.mk (60 + (j : Int)) 1 (mostI 2 m12) 2)]), (some ⟨g443, 0, none⟩), (n0_c3_1 + 1), cap444, Kn.of, rfl, (by omega), (sm_snoc hps1 (sm_mk (by omega))), (by rw [snoc_len]; omega), (Cur.mono x343 (by omega)), x6, x458, x64, ho460, nb451, nb452, nb453, nb454, c461⟩
    refine M.sn (fun b => .slice (some ⟨b, 0, none⟩) 1 1) #[.int .i64 (60 + (j : Int)), .int .i64 1, .int .i64 (mostI 2 m12), .int .i64 2] 51 s428 rfl kk rfl (fun _ => by kernel_rfl) (fun b462 w463 hb464 k465 x466 s467 => ?_)
    refine F.nx ?_
    have lo468 : w.heap.size ≤ b462 := Nat.le_trans ((SM.fr (B := B) c348 s428 (in2 (fun kq e => .inr (World.ownsRow.lt ho345 kq e).1) (fun kq e => .inr (by cases e; exact lo38))))).size (Nat.le_of_eq hb464)
    have x353 := (k465.block _ (blk_lt x353)).trans x353
    have ho474 := own_kept ho429 k465
    refine W.slq (v := .slice A0_c3_1 n0_c3_1 c0_c3_1) s467 rfl (r_load rfl kk kk (eqS (blk_cell (j := 1) x353 kk))) kk rfl ?_
    refine F.nx ?_
    refine M.sap (e := 51) (size := 4) (base := w.heap.size) (m := 1) (v := .slice A0_c3_1 n0_c3_1 c0_c3_1) (c := 1) s467 rfl rfl rfl rfl kk kk kk ho474 x466 kk kk (by omega) (by omega) (by have := ((SM.fr (B := B) c348 s467 (in2 (fun kq e => .inr (World.ownsRow.lt ho345 kq e).1) (fun kq e => .inr (by cases e; exact lo38))))).size; omega) (.inl (by simp)) (fun g475 cap476 w477 ho478 hg479 hat480 hlt481 s482 => ?_)
    refine F.nx ?_
    have nb483 : Nb B (.slice (some ⟨g475, 0, none⟩) (n0_c3_1 + 1) cap476) := nb_app nb0_c3_1_B (Nat.lt_of_lt_of_le (Cur.lt x343) (s467).size) hat480
    have nb484 : Nb b2 (.slice (some ⟨g475, 0, none⟩) (n0_c3_1 + 1) cap476) := nb_app nb0_c3_1_b2 (Nat.lt_of_lt_of_le (blk_lt x6) (s467).size) hat480
    have nb485 : Nb b32 (.slice (some ⟨g475, 0, none⟩) (n0_c3_1 + 1) cap476) := nb_app nb0_c3_1_b32 (blk_lt x353) hat480
    have x353 := (hg479.block _ (blk_lt x353) nb0_c3_1_b32).trans x353
    have nb486 : Nb b50 (.slice (some ⟨g475, 0, none⟩) (n0_c3_1 + 1) cap476) := nb_app nb0_c3_1_b50 (Nat.lt_of_lt_of_le (blk_lt x64) (s467).size) hat480
    have ho478 := own_snocP (x := (Pp.mk (60 + (j : Int)) 1 (mostI 2 m12) 2)) ho478
    refine Fq (.pointer (some ⟨b32, 1, none⟩)) (r_field (k := 1) rfl ek kk) ?_
    refine M.ss (v := .slice (some ⟨g475, 0, none⟩) (n0_c3_1 + 1) cap476) (j := 1) (news := [.slice (some ⟨g475, 0, none⟩) (n0_c3_1 + 1) cap476]) (cs' := #[.int .i64 m12, .slice (some ⟨g475, 0, none⟩) (n0_c3_1 + 1) cap476]) s482 rfl kk rfl rfl kk kk x353 kk kk (by simp) kk kk (.inl (by simp)) (fun w488 g489 x490 s491 => ?_)
    have ho492 := own_grown ho478 g489 (fun j e1 e2 => by cases e2; exact nb485 e1.symm)
    refine F.es ?_
    have x343 := Cur.sm x343 s491 (ne2 nb0_c3_1_B (fun e9 => ne39 (Option.some.inj e9))) (in2 (fun j e => Nat.le_trans hN (World.ownsRow.lt ho345 j e).1) (fun j e => by cases e; exact Nat.le_trans hN lo38))
    have x6 := SM.blk s491 x6 (ne2 nb0_c3_1_b2 (fun e9 => ne40 (Option.some.inj e9)))
    have x64 := SM.blk s491 x64 (ne2 nb0_c3_1_b50 (fun e9 => ne59 (Option.some.inj e9).symm))
    have c493 := (SM.fr (B := B) c348 s491 (in2 (fun kq e => .inr (World.ownsRow.lt ho345 kq e).1) (fun kq e => .inr (by cases e; exact lo38))))
    refine h22 _ _ ?_
    refine W.region_quiet [(0, false), (1, false), (2, false)] kk ?_
    refine Fv (.int .i64 (j : Int)) ?_
    refine Fq (.int .i64 ((j + 1 : Nat) : Int)) (r_add (m := (j : Int)) (n := 1) (z := ((j + 1 : Nat) : Int)) rfl ek ek (by omega) (by omega)) ?_
    refine Fa (.int .i64 ((j + 1 : Nat) : Int)) ?_
    refine F.es ?_
    exact h19 _ _ _ (by omega : (13 - (j + 1)) < _) ⟨j + 1, (qs ++ [(Pp.mk (60 + (j : Int)) 1 (mostI 2 m12) 2)]), (some ⟨g475, 0, none⟩), (n0_c3_1 + 1), cap476, Kn.of, rfl, (by omega), (sm_snoc hps1 (sm_mk (by omega))), (by rw [snoc_len]; omega), (Cur.mono x343 (by omega)), x6, x490, x64, ho492, nb483, nb484, nb485, nb486, c493⟩
   refine Fq (.bool false) (r_lss (m := (j : Int)) (n := 12) rfl ek ek (decide_eq_false q347)) ?_
   refine Fq (.bool false) (r_pick (b := true) rfl ek ek) ?_
   refine F.es ?_
   have x6 := SG.blk s344 x6 (fun e9 => ne9 (Option.some.inj e9).symm)
   have x45 := SG.blk s344 x45 (fun e9 => ne39 (Option.some.inj e9).symm)
   have c494 := (SG.fr (B := B) c332 s344 (fun kq e => .inl (by cases e; rfl)))
   refine h21 _ _ ?_
   refine wp_cond_false ek ?_
   refine wp_exit ?_
   refine h4 _ _ ?_
   refine wk fun K23 h23 => ?_
   refine W.region_plain (row := (some b2)) [(0, false), (1, true)] kk ?_
   have s495 := SG.self w341 (some b2)
   refine Fq (.agg #[.int .i64 m12, .slice A0_c3_1 n0_c3_1 c0_c3_1]) (r_load2 rfl ek kk kk (sgS (blk_cell (j := 0) x45 kk) (fun e9 => ne40 (Option.some.inj e9).symm)) (sgS (blk_cell (j := 1) x45 kk) (fun e9 => ne40 (Option.some.inj e9).symm))) ?_
   refine W.ss (v := .agg #[.int .i64 m12, .slice A0_c3_1 n0_c3_1 c0_c3_1]) (j := 0) (news := [.int .i64 m12, .slice A0_c3_1 n0_c3_1 c0_c3_1]) (cs' := #[.int .i64 m12, .slice A0_c3_1 n0_c3_1 c0_c3_1]) s495 rfl kk rfl rfl kk kk x6 kk kk (by simp) kk kk (.inl rfl) (fun w496 g497 x498 s499 => ?_)
   have ho500 := own_grown ho345 g497 (fun j e1 e2 => by cases e2; exact nb0_c3_1_b2 e1.symm)
   refine F.es ?_
   have x343 := Cur.grown x343 s499 (fun e9 => ne9 (Option.some.inj e9)) (fun j e => by cases e; exact Nat.le_trans hN lo8)
   have x45 := SG.blk s499 x45 (fun e9 => ne40 (Option.some.inj e9).symm)
   have c501 := (SG.fr (B := B) c494 s499 (fun kq e => .inr (by cases e; exact lo8)))
   refine h23 _ _ ?_
   refine wp_ret ?_
   try simp only [Exit.then]
   refine retC rfl rfl kk kk x498 ?_
   exact ⟨_, _, _, _, qs, rfl, ⟨ho500, ⟨by omega, by omega⟩, by omega, hps1⟩, Cur.mono x343 (by omega), c501⟩
  refine Fq (.bool false) (r_lss (m := (n0_c3_1 : Int)) (n := 10 + x338) rfl ek ek (decide_eq_false q346)) ?_
  refine Fv (.bool false) ?_
  refine Fs s344 ?_
  refine Fs s344 ?_
  refine Fq (.bool false) (r_pick (b := false) rfl ek ek) ?_
  refine F.es ?_
  have x6 := SG.blk s344 x6 (fun e9 => ne9 (Option.some.inj e9).symm)
  have x45 := SG.blk s344 x45 (fun e9 => ne39 (Option.some.inj e9).symm)
  have c502 := (SG.fr (B := B) c332 s344 (fun kq e => .inl (by cases e; rfl)))
  refine h21 _ _ ?_
  refine wp_cond_false ek ?_
  refine wp_exit ?_
  refine h4 _ _ ?_
  refine wk fun K24 h24 => ?_
  refine W.region_plain (row := (some b2)) [(0, false), (1, true)] kk ?_
  have s503 := SG.self w341 (some b2)
  refine Fq (.agg #[.int .i64 m12, .slice A0_c3_1 n0_c3_1 c0_c3_1]) (r_load2 rfl ek kk kk (sgS (blk_cell (j := 0) x45 kk) (fun e9 => ne40 (Option.some.inj e9).symm)) (sgS (blk_cell (j := 1) x45 kk) (fun e9 => ne40 (Option.some.inj e9).symm))) ?_
  refine W.ss (v := .agg #[.int .i64 m12, .slice A0_c3_1 n0_c3_1 c0_c3_1]) (j := 0) (news := [.int .i64 m12, .slice A0_c3_1 n0_c3_1 c0_c3_1]) (cs' := #[.int .i64 m12, .slice A0_c3_1 n0_c3_1 c0_c3_1]) s503 rfl kk rfl rfl kk kk x6 kk kk (by simp) kk kk (.inl rfl) (fun w504 g505 x506 s507 => ?_)
  have ho508 := own_grown ho345 g505 (fun j e1 e2 => by cases e2; exact nb0_c3_1_b2 e1.symm)
  refine F.es ?_
  have x343 := Cur.grown x343 s507 (fun e9 => ne9 (Option.some.inj e9)) (fun j e => by cases e; exact Nat.le_trans hN lo8)
  have x45 := SG.blk s507 x45 (fun e9 => ne40 (Option.some.inj e9).symm)
  have c509 := (SG.fr (B := B) c502 s507 (fun kq e => .inr (by cases e; exact lo8)))
  refine h24 _ _ ?_
  refine wp_ret ?_
  try simp only [Exit.then]
  refine retC rfl rfl kk kk x506 ?_
  exact ⟨_, _, _, _, qs, rfl, ⟨ho508, ⟨by omega, by omega⟩, by omega, hps1⟩, Cur.mono x343 (by omega), c509⟩
 refine Fq (.bool false) (r_eql (m := x69) (n := 4) rfl ek ek (decide_eq_false q331)) ?_
 refine Fa (.bool false) ?_
 refine F.es ?_
 refine h17 _ _ ?_
 refine wp_cond_false ek ?_
 refine wp_skip ?_
 refine h4 _ _ ?_
 refine wk fun K25 h25 => ?_
 refine W.region_plain (row := (some b2)) [(0, false), (1, true)] kk ?_
 have s510 := SG.self w72 (some b2)
 refine Fq (.agg #[.int .i64 m12, .slice A13 n14 c15]) (r_load2 rfl ek kk kk (sgS (blk_cell (j := 0) x45 kk) (fun e9 => ne40 (Option.some.inj e9).symm)) (sgS (blk_cell (j := 1) x45 kk) (fun e9 => ne40 (Option.some.inj e9).symm))) ?_
 refine W.ss (v := .agg #[.int .i64 m12, .slice A13 n14 c15]) (j := 0) (news := [.int .i64 m12, .slice A13 n14 c15]) (cs' := #[.int .i64 m12, .slice A13 n14 c15]) s510 rfl kk rfl rfl kk kk x6 kk kk (by simp) kk kk (.inl rfl) (fun w511 g512 x513 s514 => ?_)
 have ho515 := own_grown ho76 g512 (fun j e1 e2 => by cases e2; exact nb31 e1.symm)
 refine F.es ?_
 have x74 := Cur.grown x74 s514 (fun e9 => ne9 (Option.some.inj e9)) (fun j e => by cases e; exact Nat.le_trans hN lo8)
 have c516 := (SG.fr (B := B) c77 s514 (fun kq e => .inr (by cases e; exact lo8)))
 refine h25 _ _ ?_
 refine wp_ret ?_
 try simp only [Exit.then]
 refine retC rfl rfl kk kk x513 ?_
 exact ⟨_, _, _, _, ps16, rfl, ⟨ho515, ⟨by omega, by omega⟩, by omega, hsm18.2.2⟩, Cur.mono x74 (by omega), c516⟩
set_option maxRecDepth 100000 in
set_option maxHeartbeats 8000000 in
theorem nodeOf_any (B N k : Nat) (m : Int) (A : Option Addr) (n c : Nat) (w : World) (hc : Cur w B N k) (hk : k ≤ 900000000000) (hm : m ≤ 1000) :
    Calls Try.prog 89 #[.pointer (some ⟨B, 0, none⟩), .agg #[.int .i64 m, .slice A n c]] w fun e w' => ∃ x, e = .returned (.int .i64 x) ∧ (-1 ≤ x ∧ x ≤ 1000) ∧ Cur w' B N (k + 6) ∧ w.grownBy w' (some B) := by
 have hN := Cur.hN hc
 go_enter Try.func89, Try.ntmps89
 refine F.begin 20 [(0, .pointer (some ⟨B, 0, none⟩)), (1, .agg #[.int .i64 m, .slice A n c])] (fun U0 => ?_)
 refine wk fun K1 h1 => ?_
 refine W.region_plain (row := none) [(0, true), (1, false)] kk ?_
 have s1 := SG.self w none
 refine W.sn (fun b => .pointer (some ⟨b, 0, none⟩)) #[.int .i64 m, .slice A n c] 26 s1 rfl kk rfl (fun _ => by kernel_rfl) (fun b2 w3 hb4 k5 x6 s7 => ?_)
 refine F.nx ?_
 have lo8 : w.heap.size ≤ b2 := Nat.le_trans ((SG.fr (B := B) (World.grownBy.refl _ _) s1 (fun kq e => by cases e))).size (Nat.le_of_eq hb4)
 have ne9 : B ≠ b2 := Nat.ne_of_lt (Nat.lt_of_lt_of_eq (Nat.lt_of_lt_of_le (Cur.lt hc) (s1).size) hb4)
 refine Fa (.int .i64 0) ?_
 refine F.es ?_
 have hc := Cur.below hc (SG.below s7)
 have c10 := (SG.fr (B := B) (World.grownBy.refl _ _) s7 (fun kq e => by cases e))
 refine h1 _ _ ?_
 refine wk fun K2 h2 => ?_
 refine wk fun K3 h3 => ?_
 refine W.region_plain (row := (some B)) [(0, false), (1, false), (2, false), (3, false), (4, false), (5, true), (6, false)] kk ?_
 have s11 := SG.self w3 (some B)
 refine Fq (.pointer (some ⟨b2, 0, none⟩)) (r_field0 rfl ek kk) ?_
 refine Fl (.int .i64 m) (sgS (blk_cell (j := 0) x6 kk) (fun e9 => ne9 (Option.some.inj e9).symm)) ?_
 by_cases q12 : (m : Int) < (1 : Int)
 ·refine Fq (.bool true) (r_lss (m := m) (n := 1) rfl ek ek (decide_eq_true q12)) ?_
  refine Fv (.bool true) ?_
  refine Fs s11 ?_
  refine Fs s11 ?_
  refine Fq (.bool true) (r_pick (b := true) rfl ek ek) ?_
  refine F.es ?_
  have x6 := SG.blk s11 x6 (fun e9 => ne9 (Option.some.inj e9).symm)
  have c13 := (SG.fr (B := B) c10 s11 (fun kq e => .inl (by cases e; rfl)))
  refine h3 _ _ ?_
  refine wp_cond_true ek ?_
  refine wk fun K4 h4 => ?_
  refine W.region_plain (row := (some B)) [(0, false), (1, true), (2, true), (3, false)] kk ?_
  have s14 := SG.self w3 (some B)
  refine Fv (.pointer (some ⟨B, 0, none⟩)) ?_
  refine W.sn (fun b => .slice (some ⟨b, 0, none⟩) 4 4) #[.int .i64 0, .int .i64 9, .int .i64 1, .int .i64 (-1)] 3 s14 rfl kk rfl (fun _ => by kernel_rfl) (fun b15 w16 hb17 k18 x19 s20 => ?_)
  refine F.nx ?_
  have lo21 : w.heap.size ≤ b15 := Nat.le_trans ((SG.fr (B := B) c13 s14 (fun kq e => .inl (by cases e; rfl)))).size (Nat.le_of_eq hb17)
  have ne22 : B ≠ b15 := Nat.ne_of_lt (Nat.lt_of_lt_of_eq (Cur.lt hc) hb17)
  have hc := Cur.below hc k18
  refine Fc [.pointer (some ⟨B, 0, none⟩), .slice (some ⟨b15, 0, none⟩) 4 4] (among_any B N k (some ⟨b15, 0, none⟩) 4 4 [0, 9, 1, (-1)] _ hc (by omega) (rd_blk x19 rfl rfl) (sp_ne (by have := ne22; omega)) (by omega)) ?_
  rintro e w28 ⟨x24, rfl, hx25, x30, g29⟩
  have s31 := SG.of_grown s20 g29 (.inl rfl)
  refine ⟨_, rfl, s31, ?_⟩
  refine F.nx ?_
  have hb26 := bnd_of (-1) 9 hx25 (by decide)
  refine Fa (.int .i64 x24) ?_
  refine F.es ?_
  have x6 := SG.blk s31 x6 (fun e9 => ne9 (Option.some.inj e9).symm)
  have c32 := (SG.fr (B := B) c13 s31 (fun kq e => .inl (by cases e; rfl)))
  refine h4 _ _ ?_
  refine wp_ret ?_
  try simp only [Exit.then]
  refine ret1 (v := .int .i64 x24) rfl kk ?_
  exact ⟨_, rfl, ⟨by omega, by omega⟩, Cur.mono x30 (by omega), c32⟩
 refine Fq (.bool false) (r_lss (m := m) (n := 1) rfl ek ek (decide_eq_false q12)) ?_
 refine Fv (.bool false) ?_
 refine Fv (.pointer (some ⟨B, 0, none⟩)) ?_
 refine Fc [.pointer (some ⟨B, 0, none⟩), .int .i64 12] (one_any B N k 12 _ hc (by omega) (by omega)) ?_
 rintro e w36 ⟨b33, rfl, _, x38, g37⟩
 have s39 := SG.of_grown s11 g37 (.inl rfl)
 refine ⟨_, rfl, s39, ?_⟩
 refine F.nx ?_
 rcases Bool.eq_false_or_eq_true b33 with q40 | q40
 ·rw [q40]
  refine Fq (.bool true) (r_pick (b := false) rfl ek ek) ?_
  refine F.es ?_
  have x6 := SG.blk s39 x6 (fun e9 => ne9 (Option.some.inj e9).symm)
  have c41 := (SG.fr (B := B) c10 s39 (fun kq e => .inl (by cases e; rfl)))
  refine h3 _ _ ?_
  refine wp_cond_true ek ?_
  refine wk fun K5 h5 => ?_
  refine W.region_plain (row := (some B)) [(0, false), (1, true), (2, true), (3, false)] kk ?_
  have s42 := SG.self w36 (some B)
  refine Fv (.pointer (some ⟨B, 0, none⟩)) ?_
  refine W.sn (fun b => .slice (some ⟨b, 0, none⟩) 4 4) #[.int .i64 0, .int .i64 9, .int .i64 1, .int .i64 (-1)] 3 s42 rfl kk rfl (fun _ => by kernel_rfl) (fun b43 w44 hb45 k46 x47 s48 => ?_)
  refine F.nx ?_
  have lo49 : w.heap.size ≤ b43 := Nat.le_trans ((SG.fr (B := B) c41 s42 (fun kq e => .inl (by cases e; rfl)))).size (Nat.le_of_eq hb45)
  have ne50 : B ≠ b43 := Nat.ne_of_lt (Nat.lt_of_lt_of_eq (Cur.lt x38) hb45)
  have x38 := Cur.below x38 k46
  refine Fc [.pointer (some ⟨B, 0, none⟩), .slice (some ⟨b43, 0, none⟩) 4 4] (among_any B N (k + 2) (some ⟨b43, 0, none⟩) 4 4 [0, 9, 1, (-1)] _ x38 (by omega) (rd_blk x47 rfl rfl) (sp_ne (by have := ne50; omega)) (by omega)) ?_
  rintro e w56 ⟨x52, rfl, hx53, x58, g57⟩
  have s59 := SG.of_grown s48 g57 (.inl rfl)
  refine ⟨_, rfl, s59, ?_⟩
  refine F.nx ?_
  have hb54 := bnd_of (-1) 9 hx53 (by decide)
  refine Fa (.int .i64 x52) ?_
  refine F.es ?_
  have x6 := SG.blk s59 x6 (fun e9 => ne9 (Option.some.inj e9).symm)
  have c60 := (SG.fr (B := B) c41 s59 (fun kq e => .inl (by cases e; rfl)))
  refine h5 _ _ ?_
  refine wp_ret ?_
  try simp only [Exit.then]
  refine ret1 (v := .int .i64 x52) rfl kk ?_
  exact ⟨_, rfl, ⟨by omega, by omega⟩, Cur.mono x58 (by omega), c60⟩
 rw [q40]
 refine Fq (.bool false) (r_pick (b := false) rfl ek ek) ?_
 refine F.es ?_
 have x6 := SG.blk s39 x6 (fun e9 => ne9 (Option.some.inj e9).symm)
 have c61 := (SG.fr (B := B) c10 s39 (fun kq e => .inl (by cases e; rfl)))
 refine h3 _ _ ?_
 refine wp_cond_false ek ?_
 refine wp_skip ?_
 refine h2 _ _ ?_
 refine wk fun K6 h6 => ?_
 refine W.region_plain (row := (some B)) [(0, false), (1, false), (2, false), (3, true), (4, false), (5, false)] kk ?_
 have s62 := SG.self w36 (some B)
 refine Fv (.pointer (some ⟨B, 0, none⟩)) ?_
 refine Fq (.pointer (some ⟨b2, 0, none⟩)) (r_field0 rfl ek kk) ?_
 refine Fl (.int .i64 m) (sgS (blk_cell (j := 0) x6 kk) (fun e9 => ne9 (Option.some.inj e9).symm)) ?_
 refine Fc [.pointer (some ⟨B, 0, none⟩), .int .i64 m] (pick_any B N (k + 2) m _ x38 (by omega) (by omega)) ?_
 rintro e w66 ⟨x63, rfl, hx64, x68, g67⟩
 have s69 := SG.of_grown s62 g67 (.inl rfl)
 refine ⟨_, rfl, s69, ?_⟩
 refine F.nx ?_
 refine Fq (.int .i64 (1 + x63)) (r_add (m := 1) (n := x63) (z := 1 + x63) rfl ek ek (rfl) (by omega)) ?_
 refine Fa (.int .i64 (1 + x63)) ?_
 refine F.es ?_
 have c70 := (SG.fr (B := B) c61 s69 (fun kq e => .inl (by cases e; rfl)))
 refine h6 _ _ ?_
 refine wp_ret ?_
 try simp only [Exit.then]
 refine ret1 (v := .int .i64 (1 + x63)) rfl kk ?_
 exact ⟨_, rfl, ⟨by omega, by omega⟩, Cur.mono x68 (by omega), c70⟩
end Go.Proofs.Ytdbgfejeleafgaa
namespace Go.Proofs.Ytdbgfejeleafgaa
open Go.RowKit
set_option linter.unusedVariables false
theorem take_splice {α : Type} (l ns : List α) (j N : Nat) (h : j + ns.length ≤ N) (hN : N ≤ l.length) : (l.take j ++ ns ++ l.drop (j + ns.length)).take N = (l.take N).take j ++ ns ++ (l.take N).drop (j + ns.length) := by
  have h1 : (l.take j).length = j := by rw [List.length_take]; omega
  rw [List.append_assoc, List.take_append, List.take_append, h1, List.take_take, List.take_take, List.drop_take, List.take_of_length_le (by omega : ns.length ≤ N - j), List.append_assoc, show min j N = j by omega, show min N j = j by omega, show N - j - ns.length = N - (j + ns.length) by omega]
section
variable {P : Program} {ops : Array Oper} {Q : Exit → Act → World → Prop} {W : World} {row : Option Nat} {S : World → Prop}
theorem W.sst {i : Nat} {π : Sch} {l : List Value} {w : World} {o : Oper} {ty e : TypeId} {x y : Operand} {base size g j n c : Nat} {u : Value} {xs news : List Value} (hS : SG W row w) (hi : ops[i]? = some o) (hw : Region.wanted o (yielded ops l.toArray) = true) (hd : o.dst = none)
    (ho : o.op = .store ty x y) (hx : (Act.mk l.toArray []).eval x = .pointer (some ⟨g, j, none⟩)) (hy : (Act.mk l.toArray []).eval y = u) (how : w.ownsRow base e size (.slice (some ⟨g, 0, none⟩) n c) n xs) (hv : u.cells.toList = news) (hs : sizeB P ty = some news.length)
    (h1 : news.all (·.oneCell') = true) (hj : j + news.length ≤ n * size) (hrow : some g = row ∨ W.heap.size ≤ g)
    (h : ∀ w', w'.ownsRow base e size (.slice (some ⟨g, 0, none⟩) n c) n (xs.take j ++ news ++ xs.drop (j + news.length)) → w.grownBy w' (some g) → SG W row w' → Ws P ops Q (SG W row) π l w') : Ws P ops Q (SG W row) (.cons (i, true) π) l w := by
  rcases how.2 with ⟨h', _⟩ | ⟨g', cap', cur, h', hb, hg, hnc, hcm, hcs, htake⟩
  · simp at h'
  · simp only [Value.slice.injEq, Option.some.injEq, Addr.mk.injEq, and_true, true_and] at h'
    obtain ⟨rfl, rfl⟩ := h'
    have hle : n * size ≤ cur.toList.length := by rw [Array.length_toList, hcs]; exact Nat.mul_le_mul_right _ hnc
    have hle' : j + news.length ≤ cur.size := by rw [Array.length_toList] at hle; omega
    refine Go.Proofs.Ytdbgfejeleafgaa.W.ss (cs := cur) (cs' := (cur.toList.take j ++ news ++ cur.toList.drop (j + news.length)).toArray) hS hi hw hd ho hx hy hg hv hs hle' h1 rfl hrow (fun w' k1 k2 k3 => h w' ⟨?_, .inr ⟨g, c, _, rfl, hb, k2, hnc, hcm, ?_, ?_⟩⟩ k1 k3)
    · have := how.1
      simp only [List.length_append, List.length_take, List.length_drop]; omega
    · rw [List.size_toArray]; simp only [List.length_append, List.length_take, List.length_drop, Array.length_toList]; omega
    · rw [List.toList_toArray, take_splice _ _ _ _ hj hle, htake]
end
theorem valves_one (vs : List Vv) : ∀ u ∈ valvesV vs, u.oneCell' = true := fun u hu => by
  unfold valvesV at hu; obtain ⟨p, _, hp⟩ := List.mem_flatMap.1 hu
  simp [Vv.vals] at hp
  rcases hp with rfl | rfl | rfl | rfl <;> rfl
theorem own_joinV {w : World} {base : Nat} {e : TypeId} {v : Value} {n : Nat} {zs ys : List Vv} (h : w.ownsRow base e 4 v n (valvesV zs ++ valvesV ys)) : w.ownsRow base e 4 v n (valvesV (zs ++ ys)) := by
  simpa [valvesV] using h
theorem own_snocV {w : World} {base : Nat} {e : TypeId} {v : Value} {n : Nat} {vs : List Vv} {x : Vv} (h : w.ownsRow base e 4 v n (valvesV vs ++ (#[Value.int .i64 x.id, .int .i64 x.pipe, .int .i64 x.node, .bool x.shut] : Array Value).toList)) : w.ownsRow base e 4 v n (valvesV (vs ++ [x])) := by
  simpa [valvesV, Vv.vals] using h
theorem valvesV_shut : ∀ {vs : List Vv} {k : Nat} {x : Vv}, vs[k]? = some x → ∀ b : Bool, (valvesV vs).take (k * 4 + 3) ++ [Value.bool b] ++ (valvesV vs).drop (k * 4 + 3 + 1) = valvesV (vs.set k { x with shut := b })
  | [], k, x0, h, b => by simp at h
  | y :: vs, 0, x0, h, b => by simp at h; subst h; simp [valvesV, Vv.vals]
  | y :: vs, k + 1, x0, h, b => by
    have ih := valvesV_shut (vs := vs) (k := k) (x := x0) (by simpa using h) b
    simp only [valvesV, List.flatMap_cons, List.set_cons_succ] at ih ⊢
    rw [← ih, show (k + 1) * 4 + 3 = k * 4 + 3 + 4 by omega, show k * 4 + 3 + 4 + 1 = k * 4 + 3 + 1 + 4 by omega]
    simp [Vv.vals]
theorem own_setU {w : World} {base : Nat} {e : TypeId} {v : Value} {n k : Nat} {vs : List Vv} {x : Vv} (hx : vs[k]? = some x) {b : Bool} (h : w.ownsRow base e 4 v n ((valvesV vs).take (0 + k * 4 + 3) ++ [.bool b] ++ (valvesV vs).drop (0 + k * 4 + 3 + 1))) : w.ownsRow base e 4 v n (valvesV (vs.set k { x with shut := b })) := by
  rw [Nat.zero_add, valvesV_shut hx] at h; exact h
theorem own_atV {w : World} {base g n c : Nat} {e : TypeId} {vs : List Vv} {k : Nat} {x : Vv} (h : w.ownsRow base e 4 (.slice (some ⟨g, 0, none⟩) n c) n (valvesV vs)) (hx : vs[k]? = some x) :
    w.cell? ⟨g, 0 + k * 4, none⟩ = some (.int .i64 x.id) ∧ w.cell? ⟨g, 0 + k * 4 + 1, none⟩ = some (.int .i64 x.pipe) ∧ w.cell? ⟨g, 0 + k * 4 + 2, none⟩ = some (.int .i64 x.node) ∧ w.cell? ⟨g, 0 + k * 4 + 3, none⟩ = some (.bool x.shut) := by
  have hl := h.1
  rw [valvesV_len] at hl
  have hk := (List.getElem?_eq_some_iff.1 hx).1
  refine ⟨?_, ?_, ?_, ?_⟩
  · rw [h.cellAt _ (by omega)]; have := valvesV_at vs k 0 (by omega); rw [hx] at this; rw [Nat.zero_add]; exact this
  · rw [h.cellAt _ (by omega), Nat.zero_add, valvesV_at vs k 1 (by omega), hx]; rfl
  · rw [h.cellAt _ (by omega), Nat.zero_add, valvesV_at vs k 2 (by omega), hx]; rfl
  · rw [h.cellAt _ (by omega), Nat.zero_add, valvesV_at vs k 3 (by omega), hx]; rfl
theorem sp_freshB {w' : World} {base size n c g : Nat} {e : TypeId} {A : Option Addr} {xs : List Value} (how : w'.ownsRow base e size (.slice A n c) n xs) (h : g < base) : Sp A n (some g) := fun hn b off ea e2 => by
  have := (World.ownsRow.lt how b (by rw [ea]; simp [Value.ownBlock])).1
  cases e2; omega
theorem sp_ptrB {b g n : Nat} (h : g < b) : Sp (some ⟨b, 0, none⟩) n (some g) := fun _ b' off ea e2 => by cases ea; cases e2; omega
end Go.Proofs.Ytdbgfejeleafgaa
