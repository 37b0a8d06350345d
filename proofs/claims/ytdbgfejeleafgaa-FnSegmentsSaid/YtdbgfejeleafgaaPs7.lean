/- What the texts behind it build on; conditions: none. -/
import Derived.Test.YtdbgfejeleafgaaPs6
namespace Go.Proofs.Ytdbgfejeleafgaa
open Go.RowKit
set_option linter.unusedVariables false
set_option linter.unusedSimpArgs false
def freshA (H : Nat) (A : Option Addr) (n : Nat) : Prop := 0 < n → ∀ b off, A = some ⟨b, off, none⟩ → H ≤ b
theorem freshA_of {w : World} {base size n c k : Nat} {e : TypeId} {A : Option Addr} {xs : List Value} (h : w.ownsRow base e size (.slice A n c) k xs) {m : Nat} (hm : m ≤ n) : freshA base A m := fun hp b off e1 => (World.ownsRow.lt h b (by rw [e1]; rfl)).1
theorem freshA_mono {H H' n : Nat} {A : Option Addr} (h : freshA H A n) (h' : H' ≤ H) : freshA H' A n := fun hp b off e => Nat.le_trans h' (h hp b off e)
theorem sp_fresh {H n g : Nat} {A : Option Addr} (h : freshA H A n) (hg : g < H) : Sp A n (some g) := fun hp b off e e2 => by
  have := h hp b off e
  cases e2; omega
set_option maxRecDepth 100000 in
set_option maxHeartbeats 8000000 in
theorem pipeOf_any (B N k : Nat) (m : Int) (A : Option Addr) (n c : Nat) (ps : List Pp) (w : World) (hc : Cur w B N k) (hk : k ≤ 900000000000) (ha : Rd w 4 A n (pipesV ps)) (hsp : Sp A n (some B)) (hn : n ≤ 30) (hm : m ≤ 1000) :
    Calls Try.prog 70 #[.pointer (some ⟨B, 0, none⟩), .agg #[.int .i64 m, .slice A n c]] w fun e w' => ∃ x, e = .returned (.int .i64 x) ∧ (True) ∧ Cur w' B N (k + 4) ∧ w.grownBy w' (some B) := by
 have hN := Cur.hN hc
 have hlpl := rd_pipes_len ha
 go_enter Try.func70, Try.ntmps70
 refine F.begin 25 [(0, .pointer (some ⟨B, 0, none⟩)), (1, .agg #[.int .i64 m, .slice A n c])] (fun U0 => ?_)
 refine wk fun K1 h1 => ?_
 refine W.region_plain (row := none) [(0, true), (1, false)] kk ?_
 have s1 := SG.self w none
 refine W.sn (fun b => .pointer (some ⟨b, 0, none⟩)) #[.int .i64 m, .slice A n c] 26 s1 rfl kk rfl (fun _ => by kernel_rfl) (fun b2 w3 hb4 k5 x6 s7 => ?_)
 refine F.nx ?_
 have lo8 : w.heap.size ≤ b2 := Nat.le_trans ((SG.fr (B := B) (World.grownBy.refl _ _) s1 (fun kq e => by cases e))).size (Nat.le_of_eq hb4)
 have ne10 : B ≠ b2 := Nat.ne_of_lt (Nat.lt_of_lt_of_eq (Nat.lt_of_lt_of_le (Cur.lt hc) (s1).size) hb4)
 refine Fa (.int .i64 0) ?_
 refine F.es ?_
 have hc := Cur.below hc (SG.below s7)
 have c11 := (SG.fr (B := B) (World.grownBy.refl _ _) s7 (fun kq e => by cases e))
 have rd12 := Rd.kept ha (SG.below s7)
 refine h1 _ _ ?_
 refine wk fun K2 h2 => ?_
 refine wk fun K3 h3 => ?_
 refine W.region_plain (row := (some B)) [(0, false), (1, false), (2, false), (3, false), (4, false), (5, false), (6, true), (7, false)] kk ?_
 have s13 := SG.self w3 (some B)
 refine Fq (.pointer (some ⟨b2, 1, none⟩)) (r_field (k := 1) rfl ek kk) ?_
 refine Fl (.slice A n c) (sgS (blk_cell (j := 1) x6 kk) (fun e9 => ne10 (Option.some.inj e9).symm)) ?_
 refine Fq (.int .i64 (n : Int)) (r_len (A := A) (n := n) (c := c) rfl ek kk) ?_
 by_cases q14 : ((n : Int) : Int) = (0 : Int)
 ·refine Fq (.bool true) (r_eql (m := (n : Int)) (n := 0) rfl ek ek (decide_eq_true q14)) ?_
  refine Fv (.bool true) ?_
  refine Fs s13 ?_
  refine Fs s13 ?_
  refine Fq (.bool true) (r_pick (b := true) rfl ek ek) ?_
  refine F.es ?_
  have x6 := SG.blk s13 x6 (fun e9 => ne10 (Option.some.inj e9).symm)
  have c15 := (SG.fr (B := B) c11 s13 (fun kq e => .inl (by cases e; rfl)))
  refine h3 _ _ ?_
  refine wp_cond_true ek ?_
  refine wk fun K4 h4 => ?_
  refine W.region_plain (row := (some B)) [(0, false), (1, true), (2, false)] kk ?_
  have s17 := SG.self w3 (some B)
  refine Fv (.pointer (some ⟨B, 0, none⟩)) ?_
  refine Fc [.pointer (some ⟨B, 0, none⟩), .int .i64 20] (pick_any B N k 20 _ hc (by omega) (by omega)) ?_
  rintro e w21 ⟨x18, rfl, hx19, x23, g22⟩
  have s24 := SG.of_grown s17 g22 (.inl rfl)
  refine ⟨_, rfl, s24, ?_⟩
  refine F.nx ?_
  refine Fa (.int .i64 x18) ?_
  refine F.es ?_
  have x6 := SG.blk s24 x6 (fun e9 => ne10 (Option.some.inj e9).symm)
  have c25 := (SG.fr (B := B) c15 s24 (fun kq e => .inl (by cases e; rfl)))
  refine h4 _ _ ?_
  refine wp_ret ?_
  try simp only [Exit.then]
  refine ret1 (v := .int .i64 x18) rfl kk ?_
  exact ⟨_, rfl, trivial, Cur.mono x23 (by omega), c25⟩
 refine Fq (.bool false) (r_eql (m := (n : Int)) (n := 0) rfl ek ek (decide_eq_false q14)) ?_
 refine Fv (.bool false) ?_
 refine Fv (.pointer (some ⟨B, 0, none⟩)) ?_
 refine Fc [.pointer (some ⟨B, 0, none⟩), .int .i64 10] (one_any B N k 10 _ hc (by omega) (by omega)) ?_
 rintro e w30 ⟨b27, rfl, _, x32, g31⟩
 have s33 := SG.of_grown s13 g31 (.inl rfl)
 refine ⟨_, rfl, s33, ?_⟩
 refine F.nx ?_
 rcases Bool.eq_false_or_eq_true b27 with q34 | q34
 ·rw [q34]
  refine Fq (.bool true) (r_pick (b := false) rfl ek ek) ?_
  refine F.es ?_
  have x6 := SG.blk s33 x6 (fun e9 => ne10 (Option.some.inj e9).symm)
  have c35 := (SG.fr (B := B) c11 s33 (fun kq e => .inl (by cases e; rfl)))
  refine h3 _ _ ?_
  refine wp_cond_true ek ?_
  refine wk fun K5 h5 => ?_
  refine W.region_plain (row := (some B)) [(0, false), (1, true), (2, false)] kk ?_
  have s37 := SG.self w30 (some B)
  refine Fv (.pointer (some ⟨B, 0, none⟩)) ?_
  refine Fc [.pointer (some ⟨B, 0, none⟩), .int .i64 20] (pick_any B N (k + 2) 20 _ x32 (by omega) (by omega)) ?_
  rintro e w41 ⟨x38, rfl, hx39, x43, g42⟩
  have s44 := SG.of_grown s37 g42 (.inl rfl)
  refine ⟨_, rfl, s44, ?_⟩
  refine F.nx ?_
  refine Fa (.int .i64 x38) ?_
  refine F.es ?_
  have x6 := SG.blk s44 x6 (fun e9 => ne10 (Option.some.inj e9).symm)
  have c45 := (SG.fr (B := B) c35 s44 (fun kq e => .inl (by cases e; rfl)))
  refine h5 _ _ ?_
  refine wp_ret ?_
  try simp only [Exit.then]
  refine ret1 (v := .int .i64 x38) rfl kk ?_
  exact ⟨_, rfl, trivial, Cur.mono x43 (by omega), c45⟩
 rw [q34]
 refine Fq (.bool false) (r_pick (b := false) rfl ek ek) ?_
 refine F.es ?_
 have x6 := SG.blk s33 x6 (fun e9 => ne10 (Option.some.inj e9).symm)
 have c47 := (SG.fr (B := B) c11 s33 (fun kq e => .inl (by cases e; rfl)))
 have rd48 := rd_sep rd12 s33 hsp
 refine h3 _ _ ?_
 refine wp_cond_false ek ?_
 refine wp_skip ?_
 refine h2 _ _ ?_
 refine wk fun K6 h6 => ?_
 refine W.region_sch (row := (some B)) (Sch.of [(0, false), (1, false), (2, false), (3, false), (4, false), (5, false), (6, true), (7, false), (8, false), (9, false), (10, false)]) kk kk (fun _ d _ _ _ h => by cases d <;> exact h) kk (fun w49 e50 s51 => ?_)
 have x52 := Cur.heap x32 e50
 refine Fq (.pointer (some ⟨b2, 1, none⟩)) (r_field (k := 1) rfl ek kk) ?_
 refine Fl (.slice A n c) (sgS (blk_cell (j := 1) x6 kk) (fun e9 => ne10 (Option.some.inj e9).symm)) ?_
 refine Fv (.pointer (some ⟨B, 0, none⟩)) ?_
 refine Fq (.pointer (some ⟨b2, 1, none⟩)) (r_field (k := 1) rfl ek kk) ?_
 refine Fl (.slice A n c) (sgS (blk_cell (j := 1) x6 kk) (fun e9 => ne10 (Option.some.inj e9).symm)) ?_
 refine Fq (.int .i64 (n : Int)) (r_len (A := A) (n := n) (c := c) rfl ek kk) ?_
 refine Fc [.pointer (some ⟨B, 0, none⟩), .int .i64 (n : Int)] (pick_any B N (k + 2) (n : Int) _ x52 (by omega) (by omega)) ?_
 rintro e w56 ⟨x53, rfl, hx54, x58, g57⟩
 have s59 := SG.of_grown s51 g57 (.inl rfl)
 refine ⟨_, rfl, s59, ?_⟩
 refine F.nx ?_
 obtain ⟨x60, hx61⟩ := get_of (zs := ps) (k := x53.toNat) (by have := hlpl; omega)
 obtain ⟨b62, o63, hA64, hb65, hc66, hc67, hc68, hc69⟩ := Rd.elPipe rd48 hx61
 refine Fq (.pointer (some ⟨b62, o63 + x53.toNat * 4, none⟩)) (r_idx (n := n) (c := c) (k := x53.toNat) rfl ek hA64 (evk (z := x53) kk (by omega)) kk (by have := hlpl; omega)) ?_
 refine Fq (.pointer (some ⟨b62, o63 + x53.toNat * 4, none⟩)) (r_field0 rfl ek kk) ?_
 refine Fl (.int .i64 x60.id) (sgS hc66 (hsp (by omega) _ _ hA64)) ?_
 refine Fa (.int .i64 x60.id) ?_
 refine F.es ?_
 have c70 := (SG.fr (B := B) c47 s59 (fun kq e => .inl (by cases e; rfl)))
 refine h6 _ _ ?_
 refine wp_ret ?_
 try simp only [Exit.then]
 refine ret1 (v := .int .i64 x60.id) rfl kk ?_
 exact ⟨_, rfl, trivial, Cur.mono x58 (by omega), c70⟩
theorem snoc_lenV {vs : List Vv} {x : Vv} : (vs ++ [x]).length = vs.length + 1 := by simp
set_option maxRecDepth 100000 in
set_option maxHeartbeats 8000000 in
theorem valves_any (B N k : Nat) (m : Int) (A : Option Addr) (n c : Nat) (ps : List Pp) (w : World) (hc : Cur w B N k) (hk : k ≤ 800000000000) (ha : Rd w 4 A n (pipesV ps)) (hsp : Sp A n (some B)) (hn : n ≤ 30) (hm : m ≤ 1000) :
    Calls Try.prog 69 #[.pointer (some ⟨B, 0, none⟩), .agg #[.int .i64 m, .slice A n c]] w fun e w' => ∃ (A' : Option Addr) (n' c' : Nat) (vs : List Vv), e = .returned (.slice A' n' c') ∧ (w'.ownsRow w.heap.size 40 4 (.slice A' n' c') n' (valvesV vs) ∧ vs.length ≤ 11) ∧ Cur w' B N (k + 400) ∧ w.grownBy w' (some B) := by
 have hN := Cur.hN hc
 have hlpl := rd_pipes_len ha
 go_enter Try.func69, Try.ntmps69
 refine F.begin 94 [(0, .pointer (some ⟨B, 0, none⟩)), (1, .agg #[.int .i64 m, .slice A n c])] (fun U0 => ?_)
 refine wk fun K1 h1 => ?_
 refine W.region_plain (row := none) [(0, true), (1, false)] kk ?_
 have s1 := SG.self w none
 refine W.sn (fun b => .pointer (some ⟨b, 0, none⟩)) #[.int .i64 m, .slice A n c] 26 s1 rfl kk rfl (fun _ => by kernel_rfl) (fun b2 w3 hb4 k5 x6 s7 => ?_)
 refine F.nx ?_
 have lo8 : w.heap.size ≤ b2 := Nat.le_trans ((SG.fr (B := B) (World.grownBy.refl _ _) s1 (fun kq e => by cases e))).size (Nat.le_of_eq hb4)
 have ne10 : B ≠ b2 := Nat.ne_of_lt (Nat.lt_of_lt_of_eq (Nat.lt_of_lt_of_le (Cur.lt hc) (s1).size) hb4)
 refine Fa (.slice none 0 0) ?_
 refine F.es ?_
 have hc := Cur.below hc (SG.below s7)
 have c11 := (SG.fr (B := B) (World.grownBy.refl _ _) s7 (fun kq e => by cases e))
 have rd12 := Rd.kept ha (SG.below s7)
 refine h1 _ _ ?_
 refine wk fun K2 h2 => ?_
 refine W.region_plain (row := none) [(0, true), (1, false)] kk ?_
 have s13 := SG.self w3 none
 refine W.sn (fun b => .slice (some ⟨b, 0, none⟩) 0 0) #[] 40 s13 rfl kk rfl (fun _ => by kernel_rfl) (fun b14 w15 hb16 k17 x18 s19 => ?_)
 refine F.nx ?_
 have lo20 : w.heap.size ≤ b14 := Nat.le_trans ((SG.fr (B := B) c11 s13 (fun kq e => by cases e))).size (Nat.le_of_eq hb16)
 have sp21 : Sp A n (some b14) := sp_new rd12 (by have := (s13).size; have := hb16; omega)
 have ne22 : B ≠ b14 := Nat.ne_of_lt (Nat.lt_of_lt_of_eq (Nat.lt_of_lt_of_le (Cur.lt hc) (s13).size) hb16)
 have ne23 : b2 ≠ b14 := Nat.ne_of_lt (Nat.lt_of_lt_of_eq (Nat.lt_of_lt_of_le (blk_lt x6) (s13).size) hb16)
 refine Fa (.slice (some ⟨b14, 0, none⟩) 0 0) ?_
 refine F.es ?_
 have hc := Cur.below hc (SG.below s19)
 have x6 := SG.blk s19 x6 (Option.some_ne_none _)
 have c24 := (SG.fr (B := B) c11 s19 (fun kq e => by cases e))
 have rd25 := Rd.kept rd12 (SG.below s19)
 refine h2 _ _ ?_
 refine wk fun K3 h3 => ?_
 refine W.region_quiet [(0, false)] kk ?_
 refine Fa (.int .i64 0) ?_
 refine F.es ?_
 refine h3 _ _ ?_
 refine wk fun K4 h4 => ?_
 refine wk fun K5 h5 => ?_
 refine W.region_quiet [(0, false)] kk ?_
 refine Fa (.int .i64 0) ?_
 refine F.es ?_
 refine h5 _ _ ?_
 refine wp_block ?_
 have ho26 := own_empty (base := w.heap.size) (size := 4) x18 lo20
 replace ho26 : World.ownsRow _ _ _ _ _ _ (valvesV []) := ho26
 have sp27 := sp_own (n' := 0) (c := 0) sp21
 have nb28 : Nb B (.slice (some ⟨b14, 0, none⟩) 0 0) := nb_new ne22
 have nb29 : Nb b2 (.slice (some ⟨b14, 0, none⟩) 0 0) := nb_new ne23
 refine loopK (fun am0 aa0 wl0 => ∃ (i : Nat) (d0 : Int) (us0 : List Vv) (A0_5 : Option Addr) (n0_5 : Nat) (c0_5 : Nat) , Kn aa0 [(0, .pointer (some ⟨B, 0, none⟩)), (1, .agg #[.int .i64 m, .slice A n c]), (3, .pointer (some ⟨b2, 0, none⟩)), (4, .slice none 0 0), (5, .slice A0_5 n0_5 c0_5), (6, .int .i64 d0), (7, .int .i64 (i : Int))] 94 ∧ (am0 = n - i) ∧ (i ≤ n) ∧ (0 ≤ d0 ∧ d0 ≤ 4 * i) ∧ (us0.length ≤ 10) ∧ (Cur wl0 B N (k + 12 * i)) ∧ (wl0.heap[b2]? = some (.cells #[.int .i64 m, .slice A n c] 26 (0, 0))) ∧ (wl0.ownsRow w.heap.size 40 4 (.slice A0_5 n0_5 c0_5) n0_5 (valvesV us0)) ∧ (Nb B (.slice A0_5 n0_5 c0_5)) ∧ (Nb b2 (.slice A0_5 n0_5 c0_5)) ∧ (Rd wl0 4 A n (pipesV ps)) ∧ (Sp A n (Value.ownBlock (.slice A0_5 n0_5 c0_5))) ∧ (w.grownBy wl0 (some B))) (n - 0) ?_ ?_
 ·exact ⟨0, 0, [], (some ⟨b14, 0, none⟩), 0, 0, Kn.of, rfl, (by omega), (⟨by omega, by omega⟩), (by simp), (Cur.mono hc (by omega)), x6, ho26, nb28, nb29, rd25, sp27, c24⟩
 rintro am0 aa0 wl0 K6 h6 ⟨i, d0, us0, A0_5, n0_5, c0_5, ⟨U0, rfl⟩, rfl, hi, hd, hu0, hc, x6, ho0_5, nb0_5_B, nb0_5_b2, kl0_0, sq0_0_5, c30⟩
 have hlr0 := rd_valves_len (own_rd ho0_5)
 refine wk fun K7 h7 => ?_
 refine wk fun K8 h8 => ?_
 refine W.region_quiet [(0, false), (1, false), (2, false), (3, false), (4, false)] kk ?_
 refine Fv (.int .i64 (i : Int)) ?_
 refine Fq (.pointer (some ⟨b2, 1, none⟩)) (r_field (k := 1) rfl ek kk) ?_
 refine Fl (.slice A n c) (eqS (blk_cell (j := 1) x6 kk)) ?_
 refine Fq (.int .i64 (n : Int)) (r_len (A := A) (n := n) (c := c) rfl ek kk) ?_
 by_cases q31 : ((i : Int) : Int) < ((n : Int) : Int)
 ·refine Fq (.bool true) (r_lss (m := (i : Int)) (n := (n : Int)) rfl ek ek (decide_eq_true q31)) ?_
  refine F.es ?_
  refine h8 _ _ ?_
  refine wp_cond_true ek ?_
  refine wp_skip ?_
  refine h7 _ _ ?_
  refine wk fun K9 h9 => ?_
  refine wp_block ?_
  refine wk fun K10 h10 => ?_
  refine W.region_quiet [(0, false)] kk ?_
  refine Fa (.int .i64 0) ?_
  refine F.es ?_
  refine h10 _ _ ?_
  refine wp_block ?_
  refine loopK (fun am1 aa1 wl1 => ∃ (j : Nat) (d1 : Int) (us1 : List Vv) (A1_5 : Option Addr) (n1_5 : Nat) (c1_5 : Nat) , Kn aa1 [(0, .pointer (some ⟨B, 0, none⟩)), (1, .agg #[.int .i64 m, .slice A n c]), (3, .pointer (some ⟨b2, 0, none⟩)), (4, .slice none 0 0), (5, .slice A1_5 n1_5 c1_5), (6, .int .i64 d1), (7, .int .i64 (i : Int)), (8, .int .i64 (j : Int)), (15, .bool true)] 94 ∧ (am1 = 2 - j) ∧ (j ≤ 2) ∧ (0 ≤ d1 ∧ d1 ≤ 4 * i + 2 * j) ∧ (us1.length ≤ 10) ∧ (Cur wl1 B N (k + 12 * i + 6 * j)) ∧ (wl1.heap[b2]? = some (.cells #[.int .i64 m, .slice A n c] 26 (0, 0))) ∧ (wl1.ownsRow w.heap.size 40 4 (.slice A1_5 n1_5 c1_5) n1_5 (valvesV us1)) ∧ (Nb B (.slice A1_5 n1_5 c1_5)) ∧ (Nb b2 (.slice A1_5 n1_5 c1_5)) ∧ (Rd wl1 4 A n (pipesV ps)) ∧ (Sp A n (Value.ownBlock (.slice A1_5 n1_5 c1_5))) ∧ (w.grownBy wl1 (some B))) (2 - 0) ?_ ?_
  ·exact ⟨0, d0, us0, A0_5, n0_5, c0_5, Kn.of, rfl, (by omega), (⟨by omega, by omega⟩), (by omega), (Cur.mono hc (by omega)), x6, ho0_5, nb0_5_B, nb0_5_b2, kl0_0, sq0_0_5, c30⟩
  rintro am1 aa1 wl1 K11 h11 ⟨j, d1, us1, A1_5, n1_5, c1_5, ⟨U1, rfl⟩, rfl, hj, hd1, hu1, hc, x6, ho1_5, nb1_5_B, nb1_5_b2, kl1_0, sq1_0_5, c32⟩
  have hlr1 := rd_valves_len (own_rd ho1_5)
  refine wk fun K12 h12 => ?_
  refine wk fun K13 h13 => ?_
  refine W.region_quiet [(0, false), (1, false)] kk ?_
  refine Fv (.int .i64 (j : Int)) ?_
  by_cases q33 : ((j : Int) : Int) < (2 : Int)
  ·refine Fq (.bool true) (r_lss (m := (j : Int)) (n := 2) rfl ek ek (decide_eq_true q33)) ?_
   refine F.es ?_
   refine h13 _ _ ?_
   refine wp_cond_true ek ?_
   refine wp_skip ?_
   refine h12 _ _ ?_
   refine wk fun K14 h14 => ?_
   refine wp_block ?_
   refine wk fun K15 h15 => ?_
   refine wk fun K16 h16 => ?_
   refine W.region_plain (row := (some B)) [(0, false), (1, true), (2, false), (3, false), (4, false), (5, false), (6, false)] kk ?_
   have s34 := SG.self wl1 (some B)
   refine Fv (.pointer (some ⟨B, 0, none⟩)) ?_
   refine Fc [.pointer (some ⟨B, 0, none⟩), .int .i64 2] (one_any B N (k + 12 * i + 6 * j) 2 _ hc (by omega) (by omega)) ?_
   rintro e w38 ⟨b35, rfl, _, x40, g39⟩
   have s41 := SG.of_grown s34 g39 (.inl rfl)
   refine ⟨_, rfl, s41, ?_⟩
   refine F.nx ?_
   have ho42 := own_grown ho1_5 g39 (fun j e1 e2 => by cases e2; exact nb1_5_B e1.symm)
   rcases Bool.eq_false_or_eq_true b35 with q43 | q43
   ·rw [q43]
    refine Fv (.bool true) ?_
    refine Fs s41 ?_
    refine Fs s41 ?_
    refine Fs s41 ?_
    refine Fq (.bool true) (r_pick (b := true) rfl ek ek) ?_
    refine F.es ?_
    have x6 := SG.blk s41 x6 (fun e9 => ne10 (Option.some.inj e9).symm)
    have c44 := (SG.fr (B := B) c32 s41 (fun kq e => .inl (by cases e; rfl)))
    have rd45 := rd_sep kl1_0 s41 hsp
    refine h16 _ _ ?_
    refine wp_cond_true ek ?_
    refine wp_exit ?_
    refine h14 _ _ ?_
    refine W.region_quiet [(0, false), (1, false), (2, false)] kk ?_
    refine Fv (.int .i64 (j : Int)) ?_
    refine Fq (.int .i64 ((j + 1 : Nat) : Int)) (r_add (m := (j : Int)) (n := 1) (z := ((j + 1 : Nat) : Int)) rfl ek ek (by omega) (by omega)) ?_
    refine Fa (.int .i64 ((j + 1 : Nat) : Int)) ?_
    refine F.es ?_
    exact h11 _ _ _ (by omega : (2 - (j + 1)) < _) ⟨j + 1, d1, us1, A1_5, n1_5, c1_5, Kn.of, rfl, (by omega), (⟨by omega, by omega⟩), (by omega), (Cur.mono x40 (by omega)), x6, ho42, nb1_5_B, nb1_5_b2, rd45, sq1_0_5, c44⟩
   rw [q43]
   refine Fv (.bool false) ?_
   refine Fv (.slice A1_5 n1_5 c1_5) ?_
   refine Fq (.int .i64 (n1_5 : Int)) (r_len (A := A1_5) (n := n1_5) (c := c1_5) rfl ek kk) ?_
   by_cases q46 : ((n1_5 : Int) : Int) ≥ (10 : Int)
   ·refine Fq (.bool true) (r_geq (m := (n1_5 : Int)) (n := 10) rfl ek ek (decide_eq_true q46)) ?_
    refine Fq (.bool true) (r_pick (b := false) rfl ek ek) ?_
    refine F.es ?_
    have x6 := SG.blk s41 x6 (fun e9 => ne10 (Option.some.inj e9).symm)
    have c47 := (SG.fr (B := B) c32 s41 (fun kq e => .inl (by cases e; rfl)))
    have rd48 := rd_sep kl1_0 s41 hsp
    refine h16 _ _ ?_
    refine wp_cond_true ek ?_
    refine wp_exit ?_
    refine h14 _ _ ?_
    refine W.region_quiet [(0, false), (1, false), (2, false)] kk ?_
    refine Fv (.int .i64 (j : Int)) ?_
    refine Fq (.int .i64 ((j + 1 : Nat) : Int)) (r_add (m := (j : Int)) (n := 1) (z := ((j + 1 : Nat) : Int)) rfl ek ek (by omega) (by omega)) ?_
    refine Fa (.int .i64 ((j + 1 : Nat) : Int)) ?_
    refine F.es ?_
    exact h11 _ _ _ (by omega : (2 - (j + 1)) < _) ⟨j + 1, d1, us1, A1_5, n1_5, c1_5, Kn.of, rfl, (by omega), (⟨by omega, by omega⟩), (by omega), (Cur.mono x40 (by omega)), x6, ho42, nb1_5_B, nb1_5_b2, rd48, sq1_0_5, c47⟩
   refine Fq (.bool false) (r_geq (m := (n1_5 : Int)) (n := 10) rfl ek ek (decide_eq_false q46)) ?_
   refine Fq (.bool false) (r_pick (b := false) rfl ek ek) ?_
   refine F.es ?_
   have x6 := SG.blk s41 x6 (fun e9 => ne10 (Option.some.inj e9).symm)
   have c49 := (SG.fr (B := B) c32 s41 (fun kq e => .inl (by cases e; rfl)))
   have rd50 := rd_sep kl1_0 s41 hsp
   refine h16 _ _ ?_
   refine wp_cond_false ek ?_
   refine wp_skip ?_
   refine h15 _ _ ?_
   refine wk fun K17 h17 => ?_
   refine W.region_plain (row := (some B)) [(0, false), (1, false), (2, false), (3, true), (4, false), (5, false)] kk ?_
   have s51 := SG.self w38 (some B)
   refine Fv (.int .i64 d1) ?_
   refine Fq (.int .i64 (d1 + 1)) (r_add (m := d1) (n := 1) (z := d1 + 1) rfl ek ek (rfl) (by omega)) ?_
   refine Fv (.pointer (some ⟨B, 0, none⟩)) ?_
   refine Fc [.pointer (some ⟨B, 0, none⟩), .int .i64 2] (pick_any B N (k + 12 * i + 6 * j + 2) 2 _ x40 (by omega) (by omega)) ?_
   rintro e w55 ⟨x52, rfl, hx53, x57, g56⟩
   have s58 := SG.of_grown s51 g56 (.inl rfl)
   refine ⟨_, rfl, s58, ?_⟩
   refine F.nx ?_
   have ho59 := own_grown ho42 g56 (fun j e1 e2 => by cases e2; exact nb1_5_B e1.symm)
   refine Fq (.int .i64 (d1 + 1 + x52)) (r_add (m := d1 + 1) (n := x52) (z := d1 + 1 + x52) rfl ek ek (rfl) (by omega)) ?_
   refine Fa (.int .i64 (d1 + 1 + x52)) ?_
   refine F.es ?_
   have x6 := SG.blk s58 x6 (fun e9 => ne10 (Option.some.inj e9).symm)
   have c60 := (SG.fr (B := B) c49 s58 (fun kq e => .inl (by cases e; rfl)))
   have rd61 := rd_sep rd50 s58 hsp
   refine h17 _ _ ?_
   refine M.region_sch (row := [(some B), (Value.ownBlock (.slice A1_5 n1_5 c1_5))]) (Sch.app [(0, false), (1, false), (2, false), (3, false), (4, false), (5, false), (6, false), (7, false), (8, false), (9, false), (10, false), (11, false), (12, false), (13, false), (14, false), (15, false), (16, false), (17, false), (18, false), (19, false), (21, false), (24, false)] (.br 20 25 (Sch.app [(22, false)] (.br 23 25 (Sch.of [(25, true), (26, false), (27, true), (28, true), (29, false)]) (Sch.of [(23, true), (26, false), (27, true), (28, true), (29, false)]))) (Sch.of [(20, true), (22, false), (23, true), (26, false), (27, true), (28, true), (29, false)]))) kk kk (fun _ d _ _ _ h => by cases d <;> exact h) kk (fun w62 e63 s64 => ?_)
   have ho65 := own_heap ho59 e63
   have x66 := Cur.heap x57 e63
   refine Fv (.slice A1_5 n1_5 c1_5) ?_
   refine Fv (.int .i64 (d1 + 1 + x52)) ?_
   refine Fq (.pointer (some ⟨b2, 1, none⟩)) (r_field (k := 1) rfl ek kk) ?_
   refine Fl (.slice A n c) (smS (blk_cell (j := 1) x6 kk) (ne2 (fun e9 => ne10 (Option.some.inj e9).symm) nb1_5_b2)) ?_
   refine Fv (.int .i64 (i : Int)) ?_
   obtain ⟨x67, hx68⟩ := get_of (zs := ps) (k := i) (by have := hlpl; omega)
   obtain ⟨b69, o70, hA71, hb72, hc73, hc74, hc75, hc76⟩ := Rd.elPipe rd61 hx68
   refine Fq (.pointer (some ⟨b69, o70 + i * 4, none⟩)) (r_idx (n := n) (c := c) (k := i) rfl ek hA71 kk kk (by have := hlpl; omega)) ?_
   refine Fq (.pointer (some ⟨b69, o70 + i * 4, none⟩)) (r_field0 rfl ek kk) ?_
   refine Fl (.int .i64 x67.id) (smS hc73 (ne2 (hsp (by omega) _ _ hA71) (sq1_0_5 (by omega) _ _ hA71))) ?_
   refine Fq (.pointer (some ⟨b2, 1, none⟩)) (r_field (k := 1) rfl ek kk) ?_
   refine Fl (.slice A n c) (smS (blk_cell (j := 1) x6 kk) (ne2 (fun e9 => ne10 (Option.some.inj e9).symm) nb1_5_b2)) ?_
   refine Fv (.int .i64 (i : Int)) ?_
   obtain ⟨b77, o78, hA79, hb80, hc81, hc82, hc83, hc84⟩ := Rd.elPipe rd61 hx68
   refine Fq (.pointer (some ⟨b77, o78 + i * 4, none⟩)) (r_idx (n := n) (c := c) (k := i) rfl ek hA79 kk kk (by have := hlpl; omega)) ?_
   refine Fq (.pointer (some ⟨b77, o78 + i * 4 + 1, none⟩)) (r_field (k := 1) rfl ek kk) ?_
   refine Fl (.int .i64 x67.fr) (smS hc82 (ne2 (hsp (by omega) _ _ hA79) (sq1_0_5 (by omega) _ _ hA79))) ?_
   refine Fq (.pointer (some ⟨b2, 1, none⟩)) (r_field (k := 1) rfl ek kk) ?_
   refine Fl (.slice A n c) (smS (blk_cell (j := 1) x6 kk) (ne2 (fun e9 => ne10 (Option.some.inj e9).symm) nb1_5_b2)) ?_
   refine Fv (.int .i64 (i : Int)) ?_
   obtain ⟨b85, o86, hA87, hb88, hc89, hc90, hc91, hc92⟩ := Rd.elPipe rd61 hx68
   refine Fq (.pointer (some ⟨b85, o86 + i * 4, none⟩)) (r_idx (n := n) (c := c) (k := i) rfl ek hA87 kk kk (by have := hlpl; omega)) ?_
   refine Fq (.pointer (some ⟨b85, o86 + i * 4 + 2, none⟩)) (r_field (k := 2) rfl ek kk) ?_
   refine Fl (.int .i64 x67.to) (smS hc91 (ne2 (hsp (by omega) _ _ hA87) (sq1_0_5 (by omega) _ _ hA87))) ?_
   refine Fv (.int .i64 (j : Int)) ?_
   refine Fv (.pointer (some ⟨B, 0, none⟩)) ?_
   refine W.sbr ?_ ?_
   ·refine M.sn (fun b => .slice (some ⟨b, 0, none⟩) 2 2) #[.int .i64 x67.fr, .int .i64 x67.to] 3 s64 rfl kk rfl (fun _ => by kernel_rfl) (fun b93 w94 hb95 k96 x97 s98 => ?_)
    refine F.nx ?_
    have lo99 : w.heap.size ≤ b93 := Nat.le_trans ((SM.fr (B := B) c60 s64 (in2 (fun kq e => .inl (by cases e; rfl)) (fun kq e => .inr (World.ownsRow.lt ho59 kq e).1)))).size (Nat.le_of_eq hb95)
    have ne101 : B ≠ b93 := Nat.ne_of_lt (Nat.lt_of_lt_of_eq (Cur.lt x66) hb95)
    have x66 := Cur.below x66 k96
    have ho104 := own_kept ho65 k96
    have ho105 := own_blk (base := w.heap.size) (size := 1) (n := 2) x97 lo99 rfl (by omega)
    replace ho105 : World.ownsRow _ _ _ _ _ _ (intsV [x67.fr, x67.to]) := ho105
    have nb108 : Nb B (.slice (some ⟨b93, 0, none⟩) 2 2) := nb_new ne101
    have rd111 := own_rd ho105
    have hl112 := rd_ints_len rd111
    have sp113 := sp_of_nb (n := 2) nb108
    obtain ⟨x115, hx116⟩ := get_of (zs := [x67.fr, x67.to]) (k := j) (by have := hl112; omega)
    obtain ⟨b117, o118, hA119, hb120, hc121⟩ := Rd.elInt rd111 hx116
    refine Fq (.pointer (some ⟨b117, o118 + j, none⟩)) (r_idx1 (n := 2) (c := 2) (k := j) rfl ek hA119 kk kk (by have := hl112; omega)) ?_
    refine W.sbr ?_ ?_
    ·refine W.slq (v := .int .i64 x115) s98 rfl (r_load rfl kk kk (eqS hc121)) kk rfl ?_
     refine F.nx ?_
     refine Fc [.pointer (some ⟨B, 0, none⟩), .int .i64 3] (one_any B N ((k + 12 * i + 6 * j + 2) + 2) 3 _ x66 (by omega) (by omega)) ?_
     rintro e w125 ⟨b122, rfl, _, x127, g126⟩
     have s128 := SM.of_grown s98 g126 (.inl (by simp))
     refine ⟨_, rfl, s128, ?_⟩
     refine F.nx ?_
     have ho129 := own_grown ho104 g126 (fun j e1 e2 => by cases e2; exact nb1_5_B e1.symm)
     rcases Bool.eq_false_or_eq_true b122 with q131 | q131
     ·rw [q131]
      refine Fq (.agg #[.int .i64 (d1 + 1 + x52), .int .i64 x67.id, .int .i64 x115, .bool true]) (r_build rfl (vs := [(0, .int .i64 (d1 + 1 + x52)), (1, .int .i64 x67.id), (2, .int .i64 x115), (3, .bool true)]) kk kk) ?_
      refine M.sn (fun b => .slice (some ⟨b, 0, none⟩) 1 1) #[.int .i64 (d1 + 1 + x52), .int .i64 x67.id, .int .i64 x115, .bool true] 40 s128 rfl kk rfl (fun _ => by kernel_rfl) (fun b132 w133 hb134 k135 x136 s137 => ?_)
      refine F.nx ?_
      have lo138 : w.heap.size ≤ b132 := Nat.le_trans ((SM.fr (B := B) c60 s128 (in2 (fun kq e => .inl (by cases e; rfl)) (fun kq e => .inr (World.ownsRow.lt ho59 kq e).1)))).size (Nat.le_of_eq hb134)
      have x127 := Cur.below x127 k135
      have ho143 := own_kept ho129 k135
      refine M.sap (e := 40) (size := 4) (base := w.heap.size) (m := 1) (v := .slice A1_5 n1_5 c1_5) (c := 1) s137 rfl rfl rfl rfl kk kk kk ho143 x136 kk kk (by omega) (by omega) (by have := ((SM.fr (B := B) c60 s137 (in2 (fun kq e => .inl (by cases e; rfl)) (fun kq e => .inr (World.ownsRow.lt ho59 kq e).1)))).size; omega) (.inl (by simp)) (fun g145 cap146 w147 ho148 hg149 hat150 hlt151 s152 => ?_)
      refine F.nx ?_
      have nb153 : Nb B (.slice (some ⟨g145, 0, none⟩) (n1_5 + 1) cap146) := nb_app nb1_5_B (Cur.lt x127) hat150
      have x127 := Cur.grown x127 hg149 nb1_5_B (fun j e => Nat.le_trans hN (World.ownsRow.lt ho143 j e).1)
      have nb154 : Nb b2 (.slice (some ⟨g145, 0, none⟩) (n1_5 + 1) cap146) := nb_app nb1_5_b2 (Nat.lt_of_lt_of_le (blk_lt x6) (s137).size) hat150
      have ho148 := own_snocV (x := (Vv.mk (d1 + 1 + x52) x67.id x115 true)) ho148
      have sp156 := sp_app (v' := .slice (some ⟨g145, 0, none⟩) (n1_5 + 1) cap146) sq1_0_5 rd61 ((s137).size) (hat3 (v := .slice A1_5 n1_5 c1_5) hat150)
      refine Fa (.slice (some ⟨g145, 0, none⟩) (n1_5 + 1) cap146) ?_
      refine F.es ?_
      have x6 := SM.blk s152 x6 (ne2 (fun e9 => ne10 (Option.some.inj e9).symm) nb1_5_b2)
      have c157 := (SM.fr (B := B) c60 s152 (in2 (fun kq e => .inl (by cases e; rfl)) (fun kq e => .inr (World.ownsRow.lt ho59 kq e).1)))
      have rd158 := rd_sepM rd61 s152 (sp2 hsp sq1_0_5)
      refine h14 _ _ ?_
      refine W.region_quiet [(0, false), (1, false), (2, false)] kk ?_
      refine Fv (.int .i64 (j : Int)) ?_
      refine Fq (.int .i64 ((j + 1 : Nat) : Int)) (r_add (m := (j : Int)) (n := 1) (z := ((j + 1 : Nat) : Int)) rfl ek ek (by omega) (by omega)) ?_
      refine Fa (.int .i64 ((j + 1 : Nat) : Int)) ?_
      refine F.es ?_
      exact h11 _ _ _ (by omega : (2 - (j + 1)) < _) ⟨j + 1, d1 + 1 + x52, (us1 ++ [(Vv.mk (d1 + 1 + x52) x67.id x115 true)]), (some ⟨g145, 0, none⟩), (n1_5 + 1), cap146, Kn.of, rfl, (by omega), (⟨by omega, by omega⟩), (by rw [snoc_lenV]; omega), (Cur.mono x127 (by omega)), x6, ho148, nb153, nb154, rd158, sp156, c157⟩
     rw [q131]
     refine Fq (.agg #[.int .i64 (d1 + 1 + x52), .int .i64 x67.id, .int .i64 x115, .bool false]) (r_build rfl (vs := [(0, .int .i64 (d1 + 1 + x52)), (1, .int .i64 x67.id), (2, .int .i64 x115), (3, .bool false)]) kk kk) ?_
     refine M.sn (fun b => .slice (some ⟨b, 0, none⟩) 1 1) #[.int .i64 (d1 + 1 + x52), .int .i64 x67.id, .int .i64 x115, .bool false] 40 s128 rfl kk rfl (fun _ => by kernel_rfl) (fun b159 w160 hb161 k162 x163 s164 => ?_)
     refine F.nx ?_
     have lo165 : w.heap.size ≤ b159 := Nat.le_trans ((SM.fr (B := B) c60 s128 (in2 (fun kq e => .inl (by cases e; rfl)) (fun kq e => .inr (World.ownsRow.lt ho59 kq e).1)))).size (Nat.le_of_eq hb161)
     have x127 := Cur.below x127 k162
     have ho170 := own_kept ho129 k162
     refine M.sap (e := 40) (size := 4) (base := w.heap.size) (m := 1) (v := .slice A1_5 n1_5 c1_5) (c := 1) s164 rfl rfl rfl rfl kk kk kk ho170 x163 kk kk (by omega) (by omega) (by have := ((SM.fr (B := B) c60 s164 (in2 (fun kq e => .inl (by cases e; rfl)) (fun kq e => .inr (World.ownsRow.lt ho59 kq e).1)))).size; omega) (.inl (by simp)) (fun g172 cap173 w174 ho175 hg176 hat177 hlt178 s179 => ?_)
     refine F.nx ?_
     have nb180 : Nb B (.slice (some ⟨g172, 0, none⟩) (n1_5 + 1) cap173) := nb_app nb1_5_B (Cur.lt x127) hat177
     have x127 := Cur.grown x127 hg176 nb1_5_B (fun j e => Nat.le_trans hN (World.ownsRow.lt ho170 j e).1)
     have nb181 : Nb b2 (.slice (some ⟨g172, 0, none⟩) (n1_5 + 1) cap173) := nb_app nb1_5_b2 (Nat.lt_of_lt_of_le (blk_lt x6) (s164).size) hat177
     have ho175 := own_snocV (x := (Vv.mk (d1 + 1 + x52) x67.id x115 false)) ho175
     have sp183 := sp_app (v' := .slice (some ⟨g172, 0, none⟩) (n1_5 + 1) cap173) sq1_0_5 rd61 ((s164).size) (hat3 (v := .slice A1_5 n1_5 c1_5) hat177)
     refine Fa (.slice (some ⟨g172, 0, none⟩) (n1_5 + 1) cap173) ?_
     refine F.es ?_
     have x6 := SM.blk s179 x6 (ne2 (fun e9 => ne10 (Option.some.inj e9).symm) nb1_5_b2)
     have c184 := (SM.fr (B := B) c60 s179 (in2 (fun kq e => .inl (by cases e; rfl)) (fun kq e => .inr (World.ownsRow.lt ho59 kq e).1)))
     have rd185 := rd_sepM rd61 s179 (sp2 hsp sq1_0_5)
     refine h14 _ _ ?_
     refine W.region_quiet [(0, false), (1, false), (2, false)] kk ?_
     refine Fv (.int .i64 (j : Int)) ?_
     refine Fq (.int .i64 ((j + 1 : Nat) : Int)) (r_add (m := (j : Int)) (n := 1) (z := ((j + 1 : Nat) : Int)) rfl ek ek (by omega) (by omega)) ?_
     refine Fa (.int .i64 ((j + 1 : Nat) : Int)) ?_
     refine F.es ?_
     exact h11 _ _ _ (by omega : (2 - (j + 1)) < _) ⟨j + 1, d1 + 1 + x52, (us1 ++ [(Vv.mk (d1 + 1 + x52) x67.id x115 false)]), (some ⟨g172, 0, none⟩), (n1_5 + 1), cap173, Kn.of, rfl, (by omega), (⟨by omega, by omega⟩), (by rw [snoc_lenV]; omega), (Cur.mono x127 (by omega)), x6, ho175, nb180, nb181, rd185, sp183, c184⟩
    refine Fc [.pointer (some ⟨B, 0, none⟩), .int .i64 3] (one_any B N ((k + 12 * i + 6 * j + 2) + 2) 3 _ x66 (by omega) (by omega)) ?_
    rintro e w189 ⟨b186, rfl, _, x191, g190⟩
    have s192 := SM.of_grown s98 g190 (.inl (by simp))
    refine ⟨_, rfl, s192, ?_⟩
    refine F.nx ?_
    have ho193 := own_grown ho104 g190 (fun j e1 e2 => by cases e2; exact nb1_5_B e1.symm)
    have rd194 := rd_sepG rd111 g190 sp113
    rcases Bool.eq_false_or_eq_true b186 with q195 | q195
    ·rw [q195]
     have hc196 : w189.cell? ⟨b117, o118 + j, none⟩ = some (.int .i64 x115) := by obtain ⟨_, _, hA9, _, hc9⟩ := Rd.elInt rd194 hx116; rw [hA119] at hA9; cases hA9; exact hc9
     refine W.slq (v := .int .i64 x115) s192 rfl (r_load rfl kk kk (eqS hc196)) kk rfl ?_
     refine F.nx ?_
     refine Fq (.agg #[.int .i64 (d1 + 1 + x52), .int .i64 x67.id, .int .i64 x115, .bool true]) (r_build rfl (vs := [(0, .int .i64 (d1 + 1 + x52)), (1, .int .i64 x67.id), (2, .int .i64 x115), (3, .bool true)]) kk kk) ?_
     refine M.sn (fun b => .slice (some ⟨b, 0, none⟩) 1 1) #[.int .i64 (d1 + 1 + x52), .int .i64 x67.id, .int .i64 x115, .bool true] 40 s192 rfl kk rfl (fun _ => by kernel_rfl) (fun b197 w198 hb199 k200 x201 s202 => ?_)
     refine F.nx ?_
     have lo203 : w.heap.size ≤ b197 := Nat.le_trans ((SM.fr (B := B) c60 s192 (in2 (fun kq e => .inl (by cases e; rfl)) (fun kq e => .inr (World.ownsRow.lt ho59 kq e).1)))).size (Nat.le_of_eq hb199)
     have x191 := Cur.below x191 k200
     have ho208 := own_kept ho193 k200
     refine M.sap (e := 40) (size := 4) (base := w.heap.size) (m := 1) (v := .slice A1_5 n1_5 c1_5) (c := 1) s202 rfl rfl rfl rfl kk kk kk ho208 x201 kk kk (by omega) (by omega) (by have := ((SM.fr (B := B) c60 s202 (in2 (fun kq e => .inl (by cases e; rfl)) (fun kq e => .inr (World.ownsRow.lt ho59 kq e).1)))).size; omega) (.inl (by simp)) (fun g210 cap211 w212 ho213 hg214 hat215 hlt216 s217 => ?_)
     refine F.nx ?_
     have nb218 : Nb B (.slice (some ⟨g210, 0, none⟩) (n1_5 + 1) cap211) := nb_app nb1_5_B (Cur.lt x191) hat215
     have x191 := Cur.grown x191 hg214 nb1_5_B (fun j e => Nat.le_trans hN (World.ownsRow.lt ho208 j e).1)
     have nb219 : Nb b2 (.slice (some ⟨g210, 0, none⟩) (n1_5 + 1) cap211) := nb_app nb1_5_b2 (Nat.lt_of_lt_of_le (blk_lt x6) (s202).size) hat215
     have ho213 := own_snocV (x := (Vv.mk (d1 + 1 + x52) x67.id x115 true)) ho213
     have sp221 := sp_app (v' := .slice (some ⟨g210, 0, none⟩) (n1_5 + 1) cap211) sq1_0_5 rd61 ((s202).size) (hat3 (v := .slice A1_5 n1_5 c1_5) hat215)
     refine Fa (.slice (some ⟨g210, 0, none⟩) (n1_5 + 1) cap211) ?_
     refine F.es ?_
     have x6 := SM.blk s217 x6 (ne2 (fun e9 => ne10 (Option.some.inj e9).symm) nb1_5_b2)
     have c222 := (SM.fr (B := B) c60 s217 (in2 (fun kq e => .inl (by cases e; rfl)) (fun kq e => .inr (World.ownsRow.lt ho59 kq e).1)))
     have rd223 := rd_sepM rd61 s217 (sp2 hsp sq1_0_5)
     refine h14 _ _ ?_
     refine W.region_quiet [(0, false), (1, false), (2, false)] kk ?_
     refine Fv (.int .i64 (j : Int)) ?_
     refine Fq (.int .i64 ((j + 1 : Nat) : Int)) (r_add (m := (j : Int)) (n := 1) (z := ((j + 1 : Nat) : Int)) rfl ek ek (by omega) (by omega)) ?_
     refine Fa (.int .i64 ((j + 1 : Nat) : Int)) ?_
     refine F.es ?_
     exact h11 _ _ _ (by omega : (2 - (j + 1)) < _) ⟨j + 1, d1 + 1 + x52, (us1 ++ [(Vv.mk (d1 + 1 + x52) x67.id x115 true)]), (some ⟨g210, 0, none⟩), (n1_5 + 1), cap211, Kn.of, rfl, (by omega), (⟨by omega, by omega⟩), (by rw [snoc_lenV]; omega), (Cur.mono x191 (by omega)), x6, ho213, nb218, nb219, rd223, sp221, c222⟩
    rw [q195]
    have hc224 : w189.cell? ⟨b117, o118 + j, none⟩ = some (.int .i64 x115) := by obtain ⟨_, _, hA9, _, hc9⟩ := Rd.elInt rd194 hx116; rw [hA119] at hA9; cases hA9; exact hc9
    refine W.slq (v := .int .i64 x115) s192 rfl (r_load rfl kk kk (eqS hc224)) kk rfl ?_
    refine F.nx ?_
    refine Fq (.agg #[.int .i64 (d1 + 1 + x52), .int .i64 x67.id, .int .i64 x115, .bool false]) (r_build rfl (vs := [(0, .int .i64 (d1 + 1 + x52)), (1, .int .i64 x67.id), (2, .int .i64 x115), (3, .bool false)]) kk kk) ?_
    refine M.sn (fun b => .slice (some ⟨b, 0, none⟩) 1 1) #[.int .i64 (d1 + 1 + x52), .int .i64 x67.id, .int .i64 x115, .bool false] 40 s192 rfl kk rfl (fun _ => by kernel_rfl) (fun b225 w226 hb227 k228 x229 s230 => ?_)
    refine F.nx ?_
    have lo231 : w.heap.size ≤ b225 := Nat.le_trans ((SM.fr (B := B) c60 s192 (in2 (fun kq e => .inl (by cases e; rfl)) (fun kq e => .inr (World.ownsRow.lt ho59 kq e).1)))).size (Nat.le_of_eq hb227)
    have x191 := Cur.below x191 k228
    have ho236 := own_kept ho193 k228
    refine M.sap (e := 40) (size := 4) (base := w.heap.size) (m := 1) (v := .slice A1_5 n1_5 c1_5) (c := 1) s230 rfl rfl rfl rfl kk kk kk ho236 x229 kk kk (by omega) (by omega) (by have := ((SM.fr (B := B) c60 s230 (in2 (fun kq e => .inl (by cases e; rfl)) (fun kq e => .inr (World.ownsRow.lt ho59 kq e).1)))).size; omega) (.inl (by simp)) (fun g238 cap239 w240 ho241 hg242 hat243 hlt244 s245 => ?_)
    refine F.nx ?_
    have nb246 : Nb B (.slice (some ⟨g238, 0, none⟩) (n1_5 + 1) cap239) := nb_app nb1_5_B (Cur.lt x191) hat243
    have x191 := Cur.grown x191 hg242 nb1_5_B (fun j e => Nat.le_trans hN (World.ownsRow.lt ho236 j e).1)
    have nb247 : Nb b2 (.slice (some ⟨g238, 0, none⟩) (n1_5 + 1) cap239) := nb_app nb1_5_b2 (Nat.lt_of_lt_of_le (blk_lt x6) (s230).size) hat243
    have ho241 := own_snocV (x := (Vv.mk (d1 + 1 + x52) x67.id x115 false)) ho241
    have sp249 := sp_app (v' := .slice (some ⟨g238, 0, none⟩) (n1_5 + 1) cap239) sq1_0_5 rd61 ((s230).size) (hat3 (v := .slice A1_5 n1_5 c1_5) hat243)
    refine Fa (.slice (some ⟨g238, 0, none⟩) (n1_5 + 1) cap239) ?_
    refine F.es ?_
    have x6 := SM.blk s245 x6 (ne2 (fun e9 => ne10 (Option.some.inj e9).symm) nb1_5_b2)
    have c250 := (SM.fr (B := B) c60 s245 (in2 (fun kq e => .inl (by cases e; rfl)) (fun kq e => .inr (World.ownsRow.lt ho59 kq e).1)))
    have rd251 := rd_sepM rd61 s245 (sp2 hsp sq1_0_5)
    refine h14 _ _ ?_
    refine W.region_quiet [(0, false), (1, false), (2, false)] kk ?_
    refine Fv (.int .i64 (j : Int)) ?_
    refine Fq (.int .i64 ((j + 1 : Nat) : Int)) (r_add (m := (j : Int)) (n := 1) (z := ((j + 1 : Nat) : Int)) rfl ek ek (by omega) (by omega)) ?_
    refine Fa (.int .i64 ((j + 1 : Nat) : Int)) ?_
    refine F.es ?_
    exact h11 _ _ _ (by omega : (2 - (j + 1)) < _) ⟨j + 1, d1 + 1 + x52, (us1 ++ [(Vv.mk (d1 + 1 + x52) x67.id x115 false)]), (some ⟨g238, 0, none⟩), (n1_5 + 1), cap239, Kn.of, rfl, (by omega), (⟨by omega, by omega⟩), (by rw [snoc_lenV]; omega), (Cur.mono x191 (by omega)), x6, ho241, nb246, nb247, rd251, sp249, c250⟩
   refine Fc [.pointer (some ⟨B, 0, none⟩), .int .i64 3] (one_any B N ((k + 12 * i + 6 * j + 2) + 2) 3 _ x66 (by omega) (by omega)) ?_
   rintro e w255 ⟨b252, rfl, _, x257, g256⟩
   have s258 := SM.of_grown s64 g256 (.inl (by simp))
   refine ⟨_, rfl, s258, ?_⟩
   refine F.nx ?_
   have ho259 := own_grown ho65 g256 (fun j e1 e2 => by cases e2; exact nb1_5_B e1.symm)
   rcases Bool.eq_false_or_eq_true b252 with q260 | q260
   ·rw [q260]
    refine M.sn (fun b => .slice (some ⟨b, 0, none⟩) 2 2) #[.int .i64 x67.fr, .int .i64 x67.to] 3 s258 rfl kk rfl (fun _ => by kernel_rfl) (fun b261 w262 hb263 k264 x265 s266 => ?_)
    refine F.nx ?_
    have lo267 : w.heap.size ≤ b261 := Nat.le_trans ((SM.fr (B := B) c60 s258 (in2 (fun kq e => .inl (by cases e; rfl)) (fun kq e => .inr (World.ownsRow.lt ho59 kq e).1)))).size (Nat.le_of_eq hb263)
    have x257 := Cur.below x257 k264
    have ho272 := own_kept ho259 k264
    have ho273 := own_blk (base := w.heap.size) (size := 1) (n := 2) x265 lo267 rfl (by omega)
    replace ho273 : World.ownsRow _ _ _ _ _ _ (intsV [x67.fr, x67.to]) := ho273
    have rd279 := own_rd ho273
    have hl280 := rd_ints_len rd279
    obtain ⟨x283, hx284⟩ := get_of (zs := [x67.fr, x67.to]) (k := j) (by have := hl280; omega)
    obtain ⟨b285, o286, hA287, hb288, hc289⟩ := Rd.elInt rd279 hx284
    refine Fq (.pointer (some ⟨b285, o286 + j, none⟩)) (r_idx1 (n := 2) (c := 2) (k := j) rfl ek hA287 kk kk (by have := hl280; omega)) ?_
    refine W.slq (v := .int .i64 x283) s266 rfl (r_load rfl kk kk (eqS hc289)) kk rfl ?_
    refine F.nx ?_
    refine Fq (.agg #[.int .i64 (d1 + 1 + x52), .int .i64 x67.id, .int .i64 x283, .bool true]) (r_build rfl (vs := [(0, .int .i64 (d1 + 1 + x52)), (1, .int .i64 x67.id), (2, .int .i64 x283), (3, .bool true)]) kk kk) ?_
    refine M.sn (fun b => .slice (some ⟨b, 0, none⟩) 1 1) #[.int .i64 (d1 + 1 + x52), .int .i64 x67.id, .int .i64 x283, .bool true] 40 s266 rfl kk rfl (fun _ => by kernel_rfl) (fun b290 w291 hb292 k293 x294 s295 => ?_)
    refine F.nx ?_
    have lo296 : w.heap.size ≤ b290 := Nat.le_trans ((SM.fr (B := B) c60 s266 (in2 (fun kq e => .inl (by cases e; rfl)) (fun kq e => .inr (World.ownsRow.lt ho59 kq e).1)))).size (Nat.le_of_eq hb292)
    have x257 := Cur.below x257 k293
    have ho301 := own_kept ho272 k293
    refine M.sap (e := 40) (size := 4) (base := w.heap.size) (m := 1) (v := .slice A1_5 n1_5 c1_5) (c := 1) s295 rfl rfl rfl rfl kk kk kk ho301 x294 kk kk (by omega) (by omega) (by have := ((SM.fr (B := B) c60 s295 (in2 (fun kq e => .inl (by cases e; rfl)) (fun kq e => .inr (World.ownsRow.lt ho59 kq e).1)))).size; omega) (.inl (by simp)) (fun g303 cap304 w305 ho306 hg307 hat308 hlt309 s310 => ?_)
    refine F.nx ?_
    have nb311 : Nb B (.slice (some ⟨g303, 0, none⟩) (n1_5 + 1) cap304) := nb_app nb1_5_B (Cur.lt x257) hat308
    have x257 := Cur.grown x257 hg307 nb1_5_B (fun j e => Nat.le_trans hN (World.ownsRow.lt ho301 j e).1)
    have nb312 : Nb b2 (.slice (some ⟨g303, 0, none⟩) (n1_5 + 1) cap304) := nb_app nb1_5_b2 (Nat.lt_of_lt_of_le (blk_lt x6) (s295).size) hat308
    have ho306 := own_snocV (x := (Vv.mk (d1 + 1 + x52) x67.id x283 true)) ho306
    have sp314 := sp_app (v' := .slice (some ⟨g303, 0, none⟩) (n1_5 + 1) cap304) sq1_0_5 rd61 ((s295).size) (hat3 (v := .slice A1_5 n1_5 c1_5) hat308)
    refine Fa (.slice (some ⟨g303, 0, none⟩) (n1_5 + 1) cap304) ?_
    refine F.es ?_
    have x6 := SM.blk s310 x6 (ne2 (fun e9 => ne10 (Option.some.inj e9).symm) nb1_5_b2)
    have c315 := (SM.fr (B := B) c60 s310 (in2 (fun kq e => .inl (by cases e; rfl)) (fun kq e => .inr (World.ownsRow.lt ho59 kq e).1)))
    have rd316 := rd_sepM rd61 s310 (sp2 hsp sq1_0_5)
    refine h14 _ _ ?_
    refine W.region_quiet [(0, false), (1, false), (2, false)] kk ?_
    refine Fv (.int .i64 (j : Int)) ?_
    refine Fq (.int .i64 ((j + 1 : Nat) : Int)) (r_add (m := (j : Int)) (n := 1) (z := ((j + 1 : Nat) : Int)) rfl ek ek (by omega) (by omega)) ?_
    refine Fa (.int .i64 ((j + 1 : Nat) : Int)) ?_
    refine F.es ?_
    exact h11 _ _ _ (by omega : (2 - (j + 1)) < _) ⟨j + 1, d1 + 1 + x52, (us1 ++ [(Vv.mk (d1 + 1 + x52) x67.id x283 true)]), (some ⟨g303, 0, none⟩), (n1_5 + 1), cap304, Kn.of, rfl, (by omega), (⟨by omega, by omega⟩), (by rw [snoc_lenV]; omega), (Cur.mono x257 (by omega)), x6, ho306, nb311, nb312, rd316, sp314, c315⟩
   rw [q260]
   refine M.sn (fun b => .slice (some ⟨b, 0, none⟩) 2 2) #[.int .i64 x67.fr, .int .i64 x67.to] 3 s258 rfl kk rfl (fun _ => by kernel_rfl) (fun b317 w318 hb319 k320 x321 s322 => ?_)
   refine F.nx ?_
   have lo323 : w.heap.size ≤ b317 := Nat.le_trans ((SM.fr (B := B) c60 s258 (in2 (fun kq e => .inl (by cases e; rfl)) (fun kq e => .inr (World.ownsRow.lt ho59 kq e).1)))).size (Nat.le_of_eq hb319)
   have x257 := Cur.below x257 k320
   have ho328 := own_kept ho259 k320
   have ho329 := own_blk (base := w.heap.size) (size := 1) (n := 2) x321 lo323 rfl (by omega)
   replace ho329 : World.ownsRow _ _ _ _ _ _ (intsV [x67.fr, x67.to]) := ho329
   have rd335 := own_rd ho329
   have hl336 := rd_ints_len rd335
   obtain ⟨x339, hx340⟩ := get_of (zs := [x67.fr, x67.to]) (k := j) (by have := hl336; omega)
   obtain ⟨b341, o342, hA343, hb344, hc345⟩ := Rd.elInt rd335 hx340
   refine Fq (.pointer (some ⟨b341, o342 + j, none⟩)) (r_idx1 (n := 2) (c := 2) (k := j) rfl ek hA343 kk kk (by have := hl336; omega)) ?_
   refine W.slq (v := .int .i64 x339) s322 rfl (r_load rfl kk kk (eqS hc345)) kk rfl ?_
   refine F.nx ?_
   refine Fq (.agg #[.int .i64 (d1 + 1 + x52), .int .i64 x67.id, .int .i64 x339, .bool false]) (r_build rfl (vs := [(0, .int .i64 (d1 + 1 + x52)), (1, .int .i64 x67.id), (2, .int .i64 x339), (3, .bool false)]) kk kk) ?_
   refine M.sn (fun b => .slice (some ⟨b, 0, none⟩) 1 1) #[.int .i64 (d1 + 1 + x52), .int .i64 x67.id, .int .i64 x339, .bool false] 40 s322 rfl kk rfl (fun _ => by kernel_rfl) (fun b346 w347 hb348 k349 x350 s351 => ?_)
   refine F.nx ?_
   have lo352 : w.heap.size ≤ b346 := Nat.le_trans ((SM.fr (B := B) c60 s322 (in2 (fun kq e => .inl (by cases e; rfl)) (fun kq e => .inr (World.ownsRow.lt ho59 kq e).1)))).size (Nat.le_of_eq hb348)
   have x257 := Cur.below x257 k349
   have ho357 := own_kept ho328 k349
   refine M.sap (e := 40) (size := 4) (base := w.heap.size) (m := 1) (v := .slice A1_5 n1_5 c1_5) (c := 1) s351 rfl rfl rfl rfl kk kk kk ho357 x350 kk kk (by omega) (by omega) (by have := ((SM.fr (B := B) c60 s351 (in2 (fun kq e => .inl (by cases e; rfl)) (fun kq e => .inr (World.ownsRow.lt ho59 kq e).1)))).size; omega) (.inl (by simp)) (fun g359 cap360 w361 ho362 hg363 hat364 hlt365 s366 => ?_)
   refine F.nx ?_
   have nb367 : Nb B (.slice (some ⟨g359, 0, none⟩) (n1_5 + 1) cap360) := nb_app nb1_5_B (Cur.lt x257) hat364
   have x257 := Cur.grown x257 hg363 nb1_5_B (fun j e => Nat.le_trans hN (World.ownsRow.lt ho357 j e).1)
   have nb368 : Nb b2 (.slice (some ⟨g359, 0, none⟩) (n1_5 + 1) cap360) := nb_app nb1_5_b2 (Nat.lt_of_lt_of_le (blk_lt x6) (s351).size) hat364
   have ho362 := own_snocV (x := (Vv.mk (d1 + 1 + x52) x67.id x339 false)) ho362
   have sp370 := sp_app (v' := .slice (some ⟨g359, 0, none⟩) (n1_5 + 1) cap360) sq1_0_5 rd61 ((s351).size) (hat3 (v := .slice A1_5 n1_5 c1_5) hat364)
   refine Fa (.slice (some ⟨g359, 0, none⟩) (n1_5 + 1) cap360) ?_
   refine F.es ?_
   have x6 := SM.blk s366 x6 (ne2 (fun e9 => ne10 (Option.some.inj e9).symm) nb1_5_b2)
   have c371 := (SM.fr (B := B) c60 s366 (in2 (fun kq e => .inl (by cases e; rfl)) (fun kq e => .inr (World.ownsRow.lt ho59 kq e).1)))
   have rd372 := rd_sepM rd61 s366 (sp2 hsp sq1_0_5)
   refine h14 _ _ ?_
   refine W.region_quiet [(0, false), (1, false), (2, false)] kk ?_
   refine Fv (.int .i64 (j : Int)) ?_
   refine Fq (.int .i64 ((j + 1 : Nat) : Int)) (r_add (m := (j : Int)) (n := 1) (z := ((j + 1 : Nat) : Int)) rfl ek ek (by omega) (by omega)) ?_
   refine Fa (.int .i64 ((j + 1 : Nat) : Int)) ?_
   refine F.es ?_
   exact h11 _ _ _ (by omega : (2 - (j + 1)) < _) ⟨j + 1, d1 + 1 + x52, (us1 ++ [(Vv.mk (d1 + 1 + x52) x67.id x339 false)]), (some ⟨g359, 0, none⟩), (n1_5 + 1), cap360, Kn.of, rfl, (by omega), (⟨by omega, by omega⟩), (by rw [snoc_lenV]; omega), (Cur.mono x257 (by omega)), x6, ho362, nb367, nb368, rd372, sp370, c371⟩
  refine Fq (.bool false) (r_lss (m := (j : Int)) (n := 2) rfl ek ek (decide_eq_false q33)) ?_
  refine F.es ?_
  refine h13 _ _ ?_
  refine wp_cond_false ek ?_
  refine wp_exit ?_
  refine h9 _ _ ?_
  refine W.region_quiet [(0, false), (1, false), (2, false)] kk ?_
  refine Fv (.int .i64 (i : Int)) ?_
  refine Fq (.int .i64 ((i + 1 : Nat) : Int)) (r_add (m := (i : Int)) (n := 1) (z := ((i + 1 : Nat) : Int)) rfl ek ek (by omega) (by omega)) ?_
  refine Fa (.int .i64 ((i + 1 : Nat) : Int)) ?_
  refine F.es ?_
  exact h6 _ _ _ (by omega : (n - (i + 1)) < _) ⟨i + 1, d1, us1, A1_5, n1_5, c1_5, Kn.of, rfl, (by omega), (⟨by omega, by omega⟩), (by omega), (Cur.mono hc (by omega)), x6, ho1_5, nb1_5_B, nb1_5_b2, kl1_0, sq1_0_5, c32⟩
 refine Fq (.bool false) (r_lss (m := (i : Int)) (n := (n : Int)) rfl ek ek (decide_eq_false q31)) ?_
 refine F.es ?_
 refine h8 _ _ ?_
 refine wp_cond_false ek ?_
 refine wp_exit ?_
 refine h4 _ _ ?_
 refine wk fun K18 h18 => ?_
 refine wk fun K19 h19 => ?_
 refine W.region_plain (row := (some B)) [(0, false), (1, true)] kk ?_
 have s373 := SG.self wl0 (some B)
 refine Fv (.pointer (some ⟨B, 0, none⟩)) ?_
 refine Fc [.pointer (some ⟨B, 0, none⟩), .int .i64 24] (pick_any B N (k + 12 * i) 24 _ hc (by omega) (by omega)) ?_
 rintro e w377 ⟨x374, rfl, hx375, x379, g378⟩
 have s380 := SG.of_grown s373 g378 (.inl rfl)
 refine ⟨_, rfl, s380, ?_⟩
 refine F.nx ?_
 have ho381 := own_grown ho0_5 g378 (fun j e1 e2 => by cases e2; exact nb0_5_B e1.symm)
 refine F.es ?_
 have x6 := SG.blk s380 x6 (fun e9 => ne10 (Option.some.inj e9).symm)
 have c382 := (SG.fr (B := B) c30 s380 (fun kq e => .inl (by cases e; rfl)))
 have rd383 := rd_sep kl0_0 s380 hsp
 refine h19 _ _ ?_
 refine wp_block ?_
 refine wk fun K20 h20 => ?_
 refine W.region_quiet [(0, false), (1, false)] kk ?_
 by_cases q384 : (x374 : Int) = (0 : Int)
 ·refine Fq (.bool true) (r_eql (m := x374) (n := 0) rfl ek ek (decide_eq_true q384)) ?_
  refine Fa (.bool true) ?_
  refine F.es ?_
  refine h20 _ _ ?_
  refine wp_cond_true ek ?_
  refine M.region_sch (row := [(some B), (Value.ownBlock (.slice A0_5 n0_5 c0_5))]) (Sch.of [(0, false), (1, false), (4, false), (5, false), (7, false), (8, false), (2, true), (3, true), (6, true), (9, true), (10, false), (11, true), (12, true), (13, false)]) kk kk (fun _ d _ _ _ h => by cases d <;> exact h) kk (fun w385 e386 s387 => ?_)
  have ho388 := own_heap ho381 e386
  have x389 := Cur.heap x379 e386
  refine Fv (.slice A0_5 n0_5 c0_5) ?_
  refine Fv (.pointer (some ⟨B, 0, none⟩)) ?_
  refine Fv (.pointer (some ⟨B, 0, none⟩)) ?_
  refine Fq (.agg #[.int .i64 m, .slice A n c]) (r_load2 rfl ek kk kk (smS (blk_cell (j := 0) x6 kk) (ne2 (fun e9 => ne10 (Option.some.inj e9).symm) nb0_5_b2)) (smS (blk_cell (j := 1) x6 kk) (ne2 (fun e9 => ne10 (Option.some.inj e9).symm) nb0_5_b2))) ?_
  refine Fv (.pointer (some ⟨B, 0, none⟩)) ?_
  refine Fq (.agg #[.int .i64 m, .slice A n c]) (r_load2 rfl ek kk kk (smS (blk_cell (j := 0) x6 kk) (ne2 (fun e9 => ne10 (Option.some.inj e9).symm) nb0_5_b2)) (smS (blk_cell (j := 1) x6 kk) (ne2 (fun e9 => ne10 (Option.some.inj e9).symm) nb0_5_b2))) ?_
  refine M.sn (fun b => .slice (some ⟨b, 0, none⟩) 3 3) #[.int .i64 99, .int .i64 100, .int .i64 1] 3 s387 rfl kk rfl (fun _ => by kernel_rfl) (fun b390 w391 hb392 k393 x394 s395 => ?_)
  refine F.nx ?_
  have lo396 : w.heap.size ≤ b390 := Nat.le_trans ((SM.fr (B := B) c382 s387 (in2 (fun kq e => .inl (by cases e; rfl)) (fun kq e => .inr (World.ownsRow.lt ho381 kq e).1)))).size (Nat.le_of_eq hb392)
  have ne398 : B ≠ b390 := Nat.ne_of_lt (Nat.lt_of_lt_of_eq (Cur.lt x389) hb392)
  have x389 := Cur.below x389 k393
  have ho401 := own_kept ho388 k393
  refine Fc [.pointer (some ⟨B, 0, none⟩), .slice (some ⟨b390, 0, none⟩) 3 3] (among_any B N (k + 12 * i + 2) (some ⟨b390, 0, none⟩) 3 3 [99, 100, 1] _ x389 (by omega) (rd_blk x394 rfl rfl) (sp_ne (by have := ne398; omega)) (by omega)) ?_
  rintro e w406 ⟨x402, rfl, hx403, x408, g407⟩
  have s409 := SM.of_grown s395 g407 (.inl (by simp))
  refine ⟨_, rfl, s409, ?_⟩
  refine F.nx ?_
  have ho410 := own_grown ho401 g407 (fun j e1 e2 => by cases e2; exact nb0_5_B e1.symm)
  have hb404 := bnd_of (1) 100 hx403 (by decide)
  refine Fc [.pointer (some ⟨B, 0, none⟩), .agg #[.int .i64 m, .slice A n c]] (pipeOf_any B N ((k + 12 * i + 2) + 2) m A n c ps _ x408 (by omega) (rd_sepM rd383 s409 (sp2 hsp sq0_0_5)) hsp (by omega) (by omega)) ?_
  rintro e w414 ⟨x411, rfl, hx412, x416, g415⟩
  have s417 := SM.of_grown s409 g415 (.inl (by simp))
  refine ⟨_, rfl, s417, ?_⟩
  refine F.nx ?_
  have ho418 := own_grown ho410 g415 (fun j e1 e2 => by cases e2; exact nb0_5_B e1.symm)
  refine Fc [.pointer (some ⟨B, 0, none⟩), .agg #[.int .i64 m, .slice A n c]] (nodeOf_any B N (((k + 12 * i + 2) + 2) + 4) m A n c _ x416 (by omega) (by omega)) ?_
  rintro e w422 ⟨x419, rfl, hx420, x424, g423⟩
  have s425 := SM.of_grown s417 g423 (.inl (by simp))
  refine ⟨_, rfl, s425, ?_⟩
  refine F.nx ?_
  have ho426 := own_grown ho418 g423 (fun j e1 e2 => by cases e2; exact nb0_5_B e1.symm)
  refine Fq (.agg #[.int .i64 x402, .int .i64 x411, .int .i64 x419, .bool false]) (r_build rfl (vs := [(0, .int .i64 x402), (1, .int .i64 x411), (2, .int .i64 x419)]) kk kk) ?_
  refine M.sn (fun b => .slice (some ⟨b, 0, none⟩) 1 1) #[.int .i64 x402, .int .i64 x411, .int .i64 x419, .bool false] 40 s425 rfl kk rfl (fun _ => by kernel_rfl) (fun b427 w428 hb429 k430 x431 s432 => ?_)
  refine F.nx ?_
  have lo433 : w.heap.size ≤ b427 := Nat.le_trans ((SM.fr (B := B) c382 s425 (in2 (fun kq e => .inl (by cases e; rfl)) (fun kq e => .inr (World.ownsRow.lt ho381 kq e).1)))).size (Nat.le_of_eq hb429)
  have x424 := Cur.below x424 k430
  have ho439 := own_kept ho426 k430
  refine M.sap (e := 40) (size := 4) (base := w.heap.size) (m := 1) (v := .slice A0_5 n0_5 c0_5) (c := 1) s432 rfl rfl rfl rfl kk kk kk ho439 x431 kk kk (by omega) (by omega) (by have := ((SM.fr (B := B) c382 s432 (in2 (fun kq e => .inl (by cases e; rfl)) (fun kq e => .inr (World.ownsRow.lt ho381 kq e).1)))).size; omega) (.inl (by simp)) (fun g440 cap441 w442 ho443 hg444 hat445 hlt446 s447 => ?_)
  refine F.nx ?_
  have x424 := Cur.grown x424 hg444 nb0_5_B (fun j e => Nat.le_trans hN (World.ownsRow.lt ho439 j e).1)
  have ho443 := own_snocV (x := (Vv.mk x402 x411 x419 false)) ho443
  refine Fa (.slice (some ⟨g440, 0, none⟩) (n0_5 + 1) cap441) ?_
  refine F.es ?_
  have c453 := (SM.fr (B := B) c382 s447 (in2 (fun kq e => .inl (by cases e; rfl)) (fun kq e => .inr (World.ownsRow.lt ho381 kq e).1)))
  refine h18 _ _ ?_
  refine wk fun K21 h21 => ?_
  refine W.region_quiet [(0, false), (1, false)] kk ?_
  refine Fv (.slice (some ⟨g440, 0, none⟩) (n0_5 + 1) cap441) ?_
  refine Fa (.slice (some ⟨g440, 0, none⟩) (n0_5 + 1) cap441) ?_
  refine F.es ?_
  refine h21 _ _ ?_
  refine wp_ret ?_
  try simp only [Exit.then]
  refine ret1 (v := .slice (some ⟨g440, 0, none⟩) (n0_5 + 1) cap441) rfl kk ?_
  exact ⟨_, _, _, (us0 ++ [(Vv.mk x402 x411 x419 false)]), rfl, ⟨ho443, by rw [snoc_lenV]; omega⟩, Cur.mono x424 (by omega), c453⟩
 refine Fq (.bool false) (r_eql (m := x374) (n := 0) rfl ek ek (decide_eq_false q384)) ?_
 refine Fa (.bool false) ?_
 refine F.es ?_
 refine h20 _ _ ?_
 refine wp_cond_false ek ?_
 refine wk fun K22 h22 => ?_
 refine W.region_quiet [(0, false), (1, false)] kk ?_
 by_cases q455 : (x374 : Int) = (1 : Int)
 ·refine Fq (.bool true) (r_eql (m := x374) (n := 1) rfl ek ek (decide_eq_true q455)) ?_
  refine Fa (.bool true) ?_
  refine F.es ?_
  refine h22 _ _ ?_
  refine wp_cond_true ek ?_
  refine wk fun K23 h23 => ?_
  refine W.region_quiet [(0, false), (1, false), (2, false)] kk ?_
  refine Fv (.slice A0_5 n0_5 c0_5) ?_
  refine Fq (.int .i64 (n0_5 : Int)) (r_len (A := A0_5) (n := n0_5) (c := c0_5) rfl ek kk) ?_
  by_cases q456 : ((n0_5 : Int) : Int) > (0 : Int)
  ·refine Fq (.bool true) (r_gtr (m := (n0_5 : Int)) (n := 0) rfl ek ek (decide_eq_true q456)) ?_
   refine F.es ?_
   refine h23 _ _ ?_
   refine wp_cond_true ek ?_
   refine wk fun K24 h24 => ?_
   refine W.region_plain (row := none) [(0, false), (1, false), (2, false), (3, true), (4, true)] kk ?_
   have s457 := SG.self w377 none
   refine Fv (.slice A0_5 n0_5 c0_5) ?_
   obtain ⟨g458, rfl, _, _⟩ := own_addr ho381 (by omega)
   obtain ⟨x459, hx460⟩ := get_of (zs := us0) (k := 0) (by have h9 := rd_valves_len (own_rd ho381); omega)
   refine Fq (.pointer (some ⟨g458, 0 + 0 * 4, none⟩)) (r_idx (n := n0_5) (c := c0_5) (k := 0) (size := 4) rfl ek rfl kk kk (by omega)) ?_
   refine Fq (.agg #[.int .i64 x459.id, .int .i64 x459.pipe, .int .i64 x459.node, .bool x459.shut]) (r_load4 rfl ek kk kk (sgS ((own_atV ho381 hx460).1) (by simp)) (sgS ((own_atV ho381 hx460).2.1) (by simp)) (sgS ((own_atV ho381 hx460).2.2.1) (by simp)) (sgS ((own_atV ho381 hx460).2.2.2) (by simp))) ?_
   refine W.sn (fun b => .pointer (some ⟨b, 0, none⟩)) #[.int .i64 0, .int .i64 0, .int .i64 0, .bool false] 40 s457 rfl kk rfl (fun _ => by kernel_rfl) (fun b461 w462 hb463 k464 x465 s466 => ?_)
   refine F.nx ?_
   have lo467 : w.heap.size ≤ b461 := Nat.le_trans ((SG.fr (B := B) c382 s457 (fun kq e => by cases e))).size (Nat.le_of_eq hb463)
   have ne469 : B ≠ b461 := Nat.ne_of_lt (Nat.lt_of_lt_of_eq (Nat.lt_of_lt_of_le (Cur.lt x379) (s457).size) hb463)
   have nb471 : Nb b461 (.slice (some ⟨g458, 0, none⟩) n0_5 c0_5) := nb_hi ho381 (Nat.le_of_eq hb463)
   have ho472 := own_kept ho381 k464
   refine W.ss (v := .agg #[.int .i64 x459.id, .int .i64 x459.pipe, .int .i64 x459.node, .bool x459.shut]) (j := 0) (news := [.int .i64 x459.id, .int .i64 x459.pipe, .int .i64 x459.node, .bool x459.shut]) (cs' := #[.int .i64 x459.id, .int .i64 x459.pipe, .int .i64 x459.node, .bool x459.shut]) s466 rfl kk rfl rfl kk kk x465 kk kk (by simp) kk kk (.inr (Nat.le_trans (s457).size (Nat.le_of_eq hb463))) (fun w473 g474 x475 s476 => ?_)
   have ho477 := own_grown ho472 g474 (fun j e1 e2 => by cases e2; exact nb471 e1.symm)
   refine F.es ?_
   have x379 := Cur.below x379 (SG.below s476)
   have c478 := (SG.fr (B := B) c382 s476 (fun kq e => by cases e))
   refine h24 _ _ ?_
   refine wk fun K25 h25 => ?_
   refine W.region_plain (row := (some b461)) [(0, false), (1, true)] kk ?_
   have s480 := SG.self w473 (some b461)
   refine Fq (.pointer (some ⟨b461, 0, none⟩)) (r_field0 rfl ek kk) ?_
   refine W.ss (v := .int .i64 98) (j := 0) (news := [.int .i64 98]) (cs' := #[.int .i64 98, .int .i64 x459.pipe, .int .i64 x459.node, .bool x459.shut]) s480 rfl kk rfl rfl kk kk x475 kk kk (by simp) kk kk (.inl rfl) (fun w481 g482 x483 s484 => ?_)
   have ho485 := own_grown ho477 g482 (fun j e1 e2 => by cases e2; exact nb471 e1.symm)
   refine F.es ?_
   have x379 := Cur.grown x379 s484 (fun e9 => ne469 (Option.some.inj e9)) (fun j e => by cases e; exact Nat.le_trans hN lo467)
   have c486 := (SG.fr (B := B) c478 s484 (fun kq e => .inr (by cases e; exact lo467)))
   refine h25 _ _ ?_
   refine W.region_plain (row := (Value.ownBlock (.slice (some ⟨g458, 0, none⟩) n0_5 c0_5))) [(0, false), (1, false), (2, true), (3, true), (4, false)] kk ?_
   have s488 := SG.self w481 (Value.ownBlock (.slice (some ⟨g458, 0, none⟩) n0_5 c0_5))
   refine Fv (.slice (some ⟨g458, 0, none⟩) n0_5 c0_5) ?_
   refine Fq (.agg #[.int .i64 98, .int .i64 x459.pipe, .int .i64 x459.node, .bool x459.shut]) (r_load4 rfl ek kk kk (sgS (blk_cell (j := 0) x483 kk) nb471) (sgS (blk_cell (j := 1) x483 kk) nb471) (sgS (blk_cell (j := 2) x483 kk) nb471) (sgS (blk_cell (j := 3) x483 kk) nb471)) ?_
   refine W.sn (fun b => .slice (some ⟨b, 0, none⟩) 1 1) #[.int .i64 98, .int .i64 x459.pipe, .int .i64 x459.node, .bool x459.shut] 40 s488 rfl kk rfl (fun _ => by kernel_rfl) (fun b489 w490 hb491 k492 x493 s494 => ?_)
   refine F.nx ?_
   have lo495 : w.heap.size ≤ b489 := Nat.le_trans ((SG.fr (B := B) c486 s488 (fun kq e => .inr (World.ownsRow.lt ho485 kq e).1))).size (Nat.le_of_eq hb491)
   have ho501 := own_kept ho485 k492
   refine W.sap (e := 40) (size := 4) (base := w.heap.size) (m := 1) (v := .slice (some ⟨g458, 0, none⟩) n0_5 c0_5) (c := 1) s494 rfl rfl rfl rfl kk kk kk ho501 x493 kk kk (by omega) (by omega) (by have := ((SG.fr (B := B) c486 s494 (fun kq e => .inr (World.ownsRow.lt ho485 kq e).1))).size; omega) (.inl rfl) (fun g502 cap503 w504 ho505 hg506 hat507 hlt508 s509 => ?_)
   refine F.nx ?_
   have ho505 := own_snocV (x := (Vv.mk 98 x459.pipe x459.node x459.shut)) ho505
   refine Fa (.slice (some ⟨g502, 0, none⟩) (n0_5 + 1) cap503) ?_
   refine F.es ?_
   have x379 := Cur.grown x379 s509 nb0_5_B (fun j e => Nat.le_trans hN (World.ownsRow.lt ho485 j e).1)
   have c515 := (SG.fr (B := B) c486 s509 (fun kq e => .inr (World.ownsRow.lt ho485 kq e).1))
   refine h18 _ _ ?_
   refine wk fun K26 h26 => ?_
   refine W.region_quiet [(0, false), (1, false)] kk ?_
   refine Fv (.slice (some ⟨g502, 0, none⟩) (n0_5 + 1) cap503) ?_
   refine Fa (.slice (some ⟨g502, 0, none⟩) (n0_5 + 1) cap503) ?_
   refine F.es ?_
   refine h26 _ _ ?_
   refine wp_ret ?_
   try simp only [Exit.then]
   refine ret1 (v := .slice (some ⟨g502, 0, none⟩) (n0_5 + 1) cap503) rfl kk ?_
   exact ⟨_, _, _, (us0 ++ [(Vv.mk 98 x459.pipe x459.node x459.shut)]), rfl, ⟨ho505, by rw [snoc_lenV]; omega⟩, Cur.mono x379 (by omega), c515⟩
  refine Fq (.bool false) (r_gtr (m := (n0_5 : Int)) (n := 0) rfl ek ek (decide_eq_false q456)) ?_
  refine F.es ?_
  refine h23 _ _ ?_
  refine wp_cond_false ek ?_
  refine wp_skip ?_
  refine h18 _ _ ?_
  refine wk fun K27 h27 => ?_
  refine W.region_quiet [(0, false), (1, false)] kk ?_
  refine Fv (.slice A0_5 n0_5 c0_5) ?_
  refine Fa (.slice A0_5 n0_5 c0_5) ?_
  refine F.es ?_
  refine h27 _ _ ?_
  refine wp_ret ?_
  try simp only [Exit.then]
  refine ret1 (v := .slice A0_5 n0_5 c0_5) rfl kk ?_
  exact ⟨_, _, _, us0, rfl, ⟨ho381, by omega⟩, Cur.mono x379 (by omega), c382⟩
 refine Fq (.bool false) (r_eql (m := x374) (n := 1) rfl ek ek (decide_eq_false q455)) ?_
 refine Fa (.bool false) ?_
 refine F.es ?_
 refine h22 _ _ ?_
 refine wp_cond_false ek ?_
 refine wp_skip ?_
 refine h18 _ _ ?_
 refine wk fun K28 h28 => ?_
 refine W.region_quiet [(0, false), (1, false)] kk ?_
 refine Fv (.slice A0_5 n0_5 c0_5) ?_
 refine Fa (.slice A0_5 n0_5 c0_5) ?_
 refine F.es ?_
 refine h28 _ _ ?_
 refine wp_ret ?_
 try simp only [Exit.then]
 refine ret1 (v := .slice A0_5 n0_5 c0_5) rfl kk ?_
 exact ⟨_, _, _, us0, rfl, ⟨ho381, by omega⟩, Cur.mono x379 (by omega), c382⟩
set_option maxRecDepth 100000 in
set_option maxHeartbeats 8000000 in
theorem DrawSegmentOfPipe_any (A : Option Addr) (n c : Nat) (zs : List Int) (w : World) (hcode : Rd w 1 A n (bytesV zs)) (hz : ∀ z ∈ zs, 0 ≤ z ∧ z < 256) (hn : n ≤ 4611686018427387904) :
    Calls Try.prog 9 #[.slice A n c] w fun e w' => ∃ (m : Int) (A1 : Option Addr) (n1 c1 : Nat) (ps : List Pp) (A2 : Option Addr) (n2 c2 : Nat) (vs : List Vv) (x2 : Int), e = .returned (.tuple #[.agg #[.int .i64 m, .slice A1 n1 c1], .slice A2 n2 c2, .int .i64 x2]) ∧ ((Rd w' 4 A1 n1 (pipesV ps) ∧ Fm A1 n1 c1 ∧ freshA w.heap.size A1 n1) ∧ smD 30 m ps) ∧ ((Rd w' 4 A2 n2 (valvesV vs) ∧ Fm A2 n2 c2 ∧ freshA w.heap.size A2 n2) ∧ vs.length ≤ 11) ∧ Below w.heap.size w w' := by
 have hl := rd_bytes_len hcode
 go_enter Try.func9, Try.ntmps9
 refine F.begin 19 [(0, .slice A n c)] (fun U0 => ?_)
 refine wk fun K1 h1 => ?_
 refine W.region_plain (row := none) [(0, true), (1, false), (2, false)] kk ?_
 have s1 := SG.self w none
 refine W.sn (fun b => .pointer (some ⟨b, 0, none⟩)) #[.int .i64 0, .slice none 0 0] 26 s1 rfl kk rfl (fun _ => by kernel_rfl) (fun b2 w3 hb4 k5 x6 s7 => ?_)
 refine F.nx ?_
 have lo8 : w.heap.size ≤ b2 := Nat.le_trans ((SG.belowR (Below.refl _ _) s1 (fun kq e => by cases e))).size (Nat.le_of_eq hb4)
 refine Fa (.slice none 0 0) ?_
 refine Fa (.int .i64 0) ?_
 refine F.es ?_
 have c9 := (SG.belowR (Below.refl _ _) s7 (fun kq e => by cases e))
 refine h1 _ _ ?_
 refine wk fun K2 h2 => ?_
 refine W.region_plain (row := none) [(0, false), (1, false), (2, true), (3, false)] kk ?_
 have s10 := SG.self w3 none
 refine Fv (.slice A n c) ?_
 refine Fq (.agg #[.slice A n c, .int .i64 0, .int .u64 0]) (r_build rfl (vs := [(0, .slice A n c)]) kk kk) ?_
 refine W.sn (fun b => .pointer (some ⟨b, 0, none⟩)) #[.slice A n c, .int .i64 0, .int .u64 0] 86 s10 rfl kk rfl (fun _ => by kernel_rfl) (fun b11 w12 hb13 k14 x15 s16 => ?_)
 refine F.nx ?_
 have lo17 : w.heap.size ≤ b11 := Nat.le_trans ((SG.belowR c9 s10 (fun kq e => by cases e))).size (Nat.le_of_eq hb13)
 have ne18 : b2 ≠ b11 := Nat.ne_of_lt (Nat.lt_of_lt_of_eq (Nat.lt_of_lt_of_le (blk_lt x6) (s10).size) hb13)
 have x19 := Cur.new x15 hcode hz hn ((SG.belowR c9 s16 (fun kq e => by cases e))) lo17
 have hN : w.heap.size ≤ w.heap.size := Nat.le_refl _
 refine Fa (.pointer (some ⟨b11, 0, none⟩)) ?_
 refine F.es ?_
 have x6 := SG.blk s16 x6 (Option.some_ne_none _)
 have c20 := (SG.belowR c9 s16 (fun kq e => by cases e))
 refine h2 _ _ ?_
 refine wk fun K3 h3 => ?_
 refine W.region_plain (row := (some b11)) [(0, false), (1, true), (2, true), (3, true)] kk ?_
 have s21 := SG.self w12 (some b11)
 refine Fv (.pointer (some ⟨b11, 0, none⟩)) ?_
 have z29 := ((SG.belowR c20 s21 (fun kq e => by cases e; exact lo17))).size
 have lb35 := (Nat.lt_of_lt_of_le (blk_lt x6) (s21).size)
 have lb36 := (Cur.lt x19)
 refine Fc [.pointer (some ⟨b11, 0, none⟩)] (anyNetwork_any b11 w.heap.size 0 _ x19 (by omega)) ?_
 rintro e w38 ⟨m22, A23, n24, c25, ps26, rfl, ⟨ho27, hsm28⟩, x40, g39⟩
 have s41 := SG.of_grown s21 g39 (.inl rfl)
 refine ⟨_, rfl, s41, ?_⟩
 refine F.nx ?_
 have rd33 := own_rd ho27
 have fm32 := own_fm ho27
 have hl30 := rd_pipes_len rd33
 have fr34 := freshA_of ho27 (Nat.le_refl _)
 have hsm28m := hsm28.1
 have hsm28n := hsm28.2.1
 have sp42 : Sp A23 n24 (some b2) := sp_fresh fr34 lb35
 have sp43 : Sp A23 n24 (some b11) := sp_fresh fr34 lb36
 refine W.sn (fun b => .pointer (some ⟨b, 0, none⟩)) #[.int .i64 0, .slice none 0 0] 26 s41 rfl kk rfl (fun _ => by kernel_rfl) (fun b44 w45 hb46 k47 x48 s49 => ?_)
 refine F.nx ?_
 have lo50 : w.heap.size ≤ b44 := Nat.le_trans ((SG.belowR c20 s41 (fun kq e => by cases e; exact lo17))).size (Nat.le_of_eq hb46)
 have sp51 : Sp A23 n24 (some b44) := sp_new rd33 (by have := hb46; omega)
 have ne52 : b2 ≠ b44 := Nat.ne_of_lt (Nat.lt_of_lt_of_eq (Nat.lt_of_lt_of_le (blk_lt x6) (s41).size) hb46)
 have ne53 : b11 ≠ b44 := Nat.ne_of_lt (Nat.lt_of_lt_of_eq (Cur.lt x40) hb46)
 have x40 := Cur.below x40 k47
 have rd54 := Rd.kept rd33 k47
 refine W.ss (v := .agg #[.int .i64 m22, .slice A23 n24 c25]) (j := 0) (news := [.int .i64 m22, .slice A23 n24 c25]) (cs' := #[.int .i64 m22, .slice A23 n24 c25]) s49 rfl kk rfl rfl kk kk x48 kk kk (by simp) kk kk (.inr (Nat.le_trans (s41).size (Nat.le_of_eq hb46))) (fun w55 g56 x57 s58 => ?_)
 have x40 := Cur.grown x40 g56 (fun e9 => ne53 (Option.some.inj e9)) (fun j e => by cases e; exact Nat.le_trans hN lo50)
 have rd59 := rd_sepG rd54 g56 sp51
 refine F.es ?_
 have x6 := SG.blk s58 x6 (fun e9 => ne18 (Option.some.inj e9))
 have c60 := (SG.belowR c20 s58 (fun kq e => by cases e; exact lo17))
 refine h3 _ _ ?_
 refine wk fun K4 h4 => ?_
 refine M.region_sch (row := [(some b11), (some b2)]) (Sch.of [(0, false), (1, false), (2, false), (4, false), (5, false), (3, true), (6, true), (7, true), (8, false), (9, false)]) kk kk (fun _ d _ _ _ h => by cases d <;> exact h) kk (fun w61 e62 s63 => ?_)
 have x64 := Cur.heap x40 e62
 have x65 := (heap_same e62 x6)
 refine Fq (.agg #[.int .i64 m22, .slice A23 n24 c25]) (r_load2 rfl ek kk kk (smS (blk_cell (j := 0) x57 kk) (ne2 (fun e9 => ne53 (Option.some.inj e9).symm) (fun e9 => ne52 (Option.some.inj e9).symm))) (smS (blk_cell (j := 1) x57 kk) (ne2 (fun e9 => ne53 (Option.some.inj e9).symm) (fun e9 => ne52 (Option.some.inj e9).symm)))) ?_
 refine Fv (.pointer (some ⟨b11, 0, none⟩)) ?_
 refine Fq (.agg #[.int .i64 m22, .slice A23 n24 c25]) (r_load2 rfl ek kk kk (smS (blk_cell (j := 0) x57 kk) (ne2 (fun e9 => ne53 (Option.some.inj e9).symm) (fun e9 => ne52 (Option.some.inj e9).symm))) (smS (blk_cell (j := 1) x57 kk) (ne2 (fun e9 => ne53 (Option.some.inj e9).symm) (fun e9 => ne52 (Option.some.inj e9).symm)))) ?_
 refine Fv (.pointer (some ⟨b11, 0, none⟩)) ?_
 refine Fq (.agg #[.int .i64 m22, .slice A23 n24 c25]) (r_load2 rfl ek kk kk (smS (blk_cell (j := 0) x57 kk) (ne2 (fun e9 => ne53 (Option.some.inj e9).symm) (fun e9 => ne52 (Option.some.inj e9).symm))) (smS (blk_cell (j := 1) x57 kk) (ne2 (fun e9 => ne53 (Option.some.inj e9).symm) (fun e9 => ne52 (Option.some.inj e9).symm)))) ?_
 have z72 := ((SM.belowR c60 s63 (in2 (fun kq e => (by cases e; exact lo17)) (fun kq e => (by cases e; exact lo8))))).size
 have lb79 := (blk_lt x65)
 have lb80 := (Cur.lt x64)
 have lb81 := (Nat.lt_of_lt_of_le (blk_lt x57) (s63).size)
 refine Fc [.pointer (some ⟨b11, 0, none⟩), .agg #[.int .i64 m22, .slice A23 n24 c25]] (valves_any b11 w.heap.size (0 + 400) m22 A23 n24 c25 ps26 _ x64 (by omega) (rd_sepM rd59 s63 (sp2 sp43 sp42)) sp43 (by omega) (by omega)) ?_
 rintro e w83 ⟨A66, n67, c68, vs69, rfl, ⟨ho70, hsm71⟩, x85, g84⟩
 have s86 := SM.of_grown s63 g84 (.inl (by simp))
 refine ⟨_, rfl, s86, ?_⟩
 refine F.nx ?_
 have x65 := (g84.block _ (blk_lt x65) (fun e9 => ne18 (Option.some.inj e9))).trans x65
 have rd77 := own_rd ho70
 have fm76 := own_fm ho70
 have hl74 := rd_valves_len rd77
 have fr78 := freshA_of ho70 (Nat.le_refl _)
 have sp87 : Sp A66 n67 (some b2) := sp_fresh fr78 lb79
 have sp88 : Sp A66 n67 (some b11) := sp_fresh fr78 lb80
 refine Fc [.pointer (some ⟨b11, 0, none⟩), .agg #[.int .i64 m22, .slice A23 n24 c25]] (pipeOf_any b11 w.heap.size ((0 + 400) + 400) m22 A23 n24 c25 ps26 _ x85 (by omega) (rd_sepM rd59 s86 (sp2 sp43 sp42)) sp43 (by omega) (by omega)) ?_
 rintro e w93 ⟨x90, rfl, hx91, x95, g94⟩
 have s96 := SM.of_grown s86 g94 (.inl (by simp))
 refine ⟨_, rfl, s96, ?_⟩
 refine F.nx ?_
 have x65 := (g94.block _ (blk_lt x65) (fun e9 => ne18 (Option.some.inj e9))).trans x65
 have rd97 := rd_sepG rd77 g94 sp88
 refine M.ss (v := .agg #[.int .i64 m22, .slice A23 n24 c25]) (j := 0) (news := [.int .i64 m22, .slice A23 n24 c25]) (cs' := #[.int .i64 m22, .slice A23 n24 c25]) s96 rfl kk rfl rfl kk kk x65 kk kk (by simp) kk kk (.inl (by simp)) (fun w98 g99 x100 s101 => ?_)
 have rd102 := rd_sepG rd97 g99 sp87
 refine Fa (.slice A66 n67 c68) ?_
 refine Fa (.int .i64 x90) ?_
 refine F.es ?_
 have c103 := (SM.belowR c60 s101 (in2 (fun kq e => (by cases e; exact lo17)) (fun kq e => (by cases e; exact lo8))))
 have rd104 := rd_sepM rd59 s101 (sp2 sp43 sp42)
 refine h4 _ _ ?_
 refine wp_ret ?_
 try simp only [Exit.then]
 refine retCTT (x1 := .slice A66 n67 c68) (x2 := .int .i64 x90) rfl kk kk kk x100 kk kk ?_
 exact ⟨_, _, _, _, ps26, _, _, _, vs69, _, rfl, ⟨⟨rd104, fm32, (freshA_mono fr34 z29)⟩, hsm28⟩, ⟨⟨rd102, fm76, (freshA_mono fr78 z72)⟩, by first | omega | (simp; omega)⟩, c103⟩
set_option maxRecDepth 100000 in
set_option maxHeartbeats 8000000 in
theorem DrawSegmentOfNode_any (A : Option Addr) (n c : Nat) (zs : List Int) (w : World) (hcode : Rd w 1 A n (bytesV zs)) (hz : ∀ z ∈ zs, 0 ≤ z ∧ z < 256) (hn : n ≤ 4611686018427387904) :
    Calls Try.prog 22 #[.slice A n c] w fun e w' => ∃ (m : Int) (A1 : Option Addr) (n1 c1 : Nat) (ps : List Pp) (A2 : Option Addr) (n2 c2 : Nat) (vs : List Vv) (x2 : Int), e = .returned (.tuple #[.agg #[.int .i64 m, .slice A1 n1 c1], .slice A2 n2 c2, .int .i64 x2]) ∧ ((Rd w' 4 A1 n1 (pipesV ps) ∧ Fm A1 n1 c1 ∧ freshA w.heap.size A1 n1) ∧ smD 30 m ps) ∧ ((Rd w' 4 A2 n2 (valvesV vs) ∧ Fm A2 n2 c2 ∧ freshA w.heap.size A2 n2) ∧ vs.length ≤ 11) ∧ Below w.heap.size w w' := by
 have hl := rd_bytes_len hcode
 go_enter Try.func22, Try.ntmps22
 refine F.begin 19 [(0, .slice A n c)] (fun U0 => ?_)
 refine wk fun K1 h1 => ?_
 refine W.region_plain (row := none) [(0, true), (1, false), (2, false)] kk ?_
 have s1 := SG.self w none
 refine W.sn (fun b => .pointer (some ⟨b, 0, none⟩)) #[.int .i64 0, .slice none 0 0] 26 s1 rfl kk rfl (fun _ => by kernel_rfl) (fun b2 w3 hb4 k5 x6 s7 => ?_)
 refine F.nx ?_
 have lo8 : w.heap.size ≤ b2 := Nat.le_trans ((SG.belowR (Below.refl _ _) s1 (fun kq e => by cases e))).size (Nat.le_of_eq hb4)
 refine Fa (.slice none 0 0) ?_
 refine Fa (.int .i64 0) ?_
 refine F.es ?_
 have c9 := (SG.belowR (Below.refl _ _) s7 (fun kq e => by cases e))
 refine h1 _ _ ?_
 refine wk fun K2 h2 => ?_
 refine W.region_plain (row := none) [(0, false), (1, false), (2, true), (3, false)] kk ?_
 have s10 := SG.self w3 none
 refine Fv (.slice A n c) ?_
 refine Fq (.agg #[.slice A n c, .int .i64 0, .int .u64 0]) (r_build rfl (vs := [(0, .slice A n c)]) kk kk) ?_
 refine W.sn (fun b => .pointer (some ⟨b, 0, none⟩)) #[.slice A n c, .int .i64 0, .int .u64 0] 86 s10 rfl kk rfl (fun _ => by kernel_rfl) (fun b11 w12 hb13 k14 x15 s16 => ?_)
 refine F.nx ?_
 have lo17 : w.heap.size ≤ b11 := Nat.le_trans ((SG.belowR c9 s10 (fun kq e => by cases e))).size (Nat.le_of_eq hb13)
 have ne18 : b2 ≠ b11 := Nat.ne_of_lt (Nat.lt_of_lt_of_eq (Nat.lt_of_lt_of_le (blk_lt x6) (s10).size) hb13)
 have x19 := Cur.new x15 hcode hz hn ((SG.belowR c9 s16 (fun kq e => by cases e))) lo17
 have hN : w.heap.size ≤ w.heap.size := Nat.le_refl _
 refine Fa (.pointer (some ⟨b11, 0, none⟩)) ?_
 refine F.es ?_
 have x6 := SG.blk s16 x6 (Option.some_ne_none _)
 have c20 := (SG.belowR c9 s16 (fun kq e => by cases e))
 refine h2 _ _ ?_
 refine wk fun K3 h3 => ?_
 refine W.region_plain (row := (some b11)) [(0, false), (1, true), (2, true), (3, true)] kk ?_
 have s21 := SG.self w12 (some b11)
 refine Fv (.pointer (some ⟨b11, 0, none⟩)) ?_
 have z29 := ((SG.belowR c20 s21 (fun kq e => by cases e; exact lo17))).size
 have lb35 := (Nat.lt_of_lt_of_le (blk_lt x6) (s21).size)
 have lb36 := (Cur.lt x19)
 refine Fc [.pointer (some ⟨b11, 0, none⟩)] (anyNetwork_any b11 w.heap.size 0 _ x19 (by omega)) ?_
 rintro e w38 ⟨m22, A23, n24, c25, ps26, rfl, ⟨ho27, hsm28⟩, x40, g39⟩
 have s41 := SG.of_grown s21 g39 (.inl rfl)
 refine ⟨_, rfl, s41, ?_⟩
 refine F.nx ?_
 have rd33 := own_rd ho27
 have fm32 := own_fm ho27
 have hl30 := rd_pipes_len rd33
 have fr34 := freshA_of ho27 (Nat.le_refl _)
 have hsm28m := hsm28.1
 have hsm28n := hsm28.2.1
 have sp42 : Sp A23 n24 (some b2) := sp_fresh fr34 lb35
 have sp43 : Sp A23 n24 (some b11) := sp_fresh fr34 lb36
 refine W.sn (fun b => .pointer (some ⟨b, 0, none⟩)) #[.int .i64 0, .slice none 0 0] 26 s41 rfl kk rfl (fun _ => by kernel_rfl) (fun b44 w45 hb46 k47 x48 s49 => ?_)
 refine F.nx ?_
 have lo50 : w.heap.size ≤ b44 := Nat.le_trans ((SG.belowR c20 s41 (fun kq e => by cases e; exact lo17))).size (Nat.le_of_eq hb46)
 have sp51 : Sp A23 n24 (some b44) := sp_new rd33 (by have := hb46; omega)
 have ne52 : b2 ≠ b44 := Nat.ne_of_lt (Nat.lt_of_lt_of_eq (Nat.lt_of_lt_of_le (blk_lt x6) (s41).size) hb46)
 have ne53 : b11 ≠ b44 := Nat.ne_of_lt (Nat.lt_of_lt_of_eq (Cur.lt x40) hb46)
 have x40 := Cur.below x40 k47
 have rd54 := Rd.kept rd33 k47
 refine W.ss (v := .agg #[.int .i64 m22, .slice A23 n24 c25]) (j := 0) (news := [.int .i64 m22, .slice A23 n24 c25]) (cs' := #[.int .i64 m22, .slice A23 n24 c25]) s49 rfl kk rfl rfl kk kk x48 kk kk (by simp) kk kk (.inr (Nat.le_trans (s41).size (Nat.le_of_eq hb46))) (fun w55 g56 x57 s58 => ?_)
 have x40 := Cur.grown x40 g56 (fun e9 => ne53 (Option.some.inj e9)) (fun j e => by cases e; exact Nat.le_trans hN lo50)
 have rd59 := rd_sepG rd54 g56 sp51
 refine F.es ?_
 have x6 := SG.blk s58 x6 (fun e9 => ne18 (Option.some.inj e9))
 have c60 := (SG.belowR c20 s58 (fun kq e => by cases e; exact lo17))
 refine h3 _ _ ?_
 refine wk fun K4 h4 => ?_
 refine M.region_sch (row := [(some b11), (some b2)]) (Sch.of [(0, false), (1, false), (2, false), (4, false), (5, false), (3, true), (6, true), (7, true), (8, false), (9, false)]) kk kk (fun _ d _ _ _ h => by cases d <;> exact h) kk (fun w61 e62 s63 => ?_)
 have x64 := Cur.heap x40 e62
 have x65 := (heap_same e62 x6)
 refine Fq (.agg #[.int .i64 m22, .slice A23 n24 c25]) (r_load2 rfl ek kk kk (smS (blk_cell (j := 0) x57 kk) (ne2 (fun e9 => ne53 (Option.some.inj e9).symm) (fun e9 => ne52 (Option.some.inj e9).symm))) (smS (blk_cell (j := 1) x57 kk) (ne2 (fun e9 => ne53 (Option.some.inj e9).symm) (fun e9 => ne52 (Option.some.inj e9).symm)))) ?_
 refine Fv (.pointer (some ⟨b11, 0, none⟩)) ?_
 refine Fq (.agg #[.int .i64 m22, .slice A23 n24 c25]) (r_load2 rfl ek kk kk (smS (blk_cell (j := 0) x57 kk) (ne2 (fun e9 => ne53 (Option.some.inj e9).symm) (fun e9 => ne52 (Option.some.inj e9).symm))) (smS (blk_cell (j := 1) x57 kk) (ne2 (fun e9 => ne53 (Option.some.inj e9).symm) (fun e9 => ne52 (Option.some.inj e9).symm)))) ?_
 refine Fv (.pointer (some ⟨b11, 0, none⟩)) ?_
 refine Fq (.agg #[.int .i64 m22, .slice A23 n24 c25]) (r_load2 rfl ek kk kk (smS (blk_cell (j := 0) x57 kk) (ne2 (fun e9 => ne53 (Option.some.inj e9).symm) (fun e9 => ne52 (Option.some.inj e9).symm))) (smS (blk_cell (j := 1) x57 kk) (ne2 (fun e9 => ne53 (Option.some.inj e9).symm) (fun e9 => ne52 (Option.some.inj e9).symm)))) ?_
 have z72 := ((SM.belowR c60 s63 (in2 (fun kq e => (by cases e; exact lo17)) (fun kq e => (by cases e; exact lo8))))).size
 have lb79 := (blk_lt x65)
 have lb80 := (Cur.lt x64)
 have lb81 := (Nat.lt_of_lt_of_le (blk_lt x57) (s63).size)
 refine Fc [.pointer (some ⟨b11, 0, none⟩), .agg #[.int .i64 m22, .slice A23 n24 c25]] (valves_any b11 w.heap.size (0 + 400) m22 A23 n24 c25 ps26 _ x64 (by omega) (rd_sepM rd59 s63 (sp2 sp43 sp42)) sp43 (by omega) (by omega)) ?_
 rintro e w83 ⟨A66, n67, c68, vs69, rfl, ⟨ho70, hsm71⟩, x85, g84⟩
 have s86 := SM.of_grown s63 g84 (.inl (by simp))
 refine ⟨_, rfl, s86, ?_⟩
 refine F.nx ?_
 have x65 := (g84.block _ (blk_lt x65) (fun e9 => ne18 (Option.some.inj e9))).trans x65
 have rd77 := own_rd ho70
 have fm76 := own_fm ho70
 have hl74 := rd_valves_len rd77
 have fr78 := freshA_of ho70 (Nat.le_refl _)
 have sp87 : Sp A66 n67 (some b2) := sp_fresh fr78 lb79
 have sp88 : Sp A66 n67 (some b11) := sp_fresh fr78 lb80
 refine Fc [.pointer (some ⟨b11, 0, none⟩), .agg #[.int .i64 m22, .slice A23 n24 c25]] (nodeOf_any b11 w.heap.size ((0 + 400) + 400) m22 A23 n24 c25 _ x85 (by omega) (by omega)) ?_
 rintro e w93 ⟨x90, rfl, hx91, x95, g94⟩
 have s96 := SM.of_grown s86 g94 (.inl (by simp))
 refine ⟨_, rfl, s96, ?_⟩
 refine F.nx ?_
 have x65 := (g94.block _ (blk_lt x65) (fun e9 => ne18 (Option.some.inj e9))).trans x65
 have rd97 := rd_sepG rd77 g94 sp88
 refine M.ss (v := .agg #[.int .i64 m22, .slice A23 n24 c25]) (j := 0) (news := [.int .i64 m22, .slice A23 n24 c25]) (cs' := #[.int .i64 m22, .slice A23 n24 c25]) s96 rfl kk rfl rfl kk kk x65 kk kk (by simp) kk kk (.inl (by simp)) (fun w98 g99 x100 s101 => ?_)
 have rd102 := rd_sepG rd97 g99 sp87
 refine Fa (.slice A66 n67 c68) ?_
 refine Fa (.int .i64 x90) ?_
 refine F.es ?_
 have c103 := (SM.belowR c60 s101 (in2 (fun kq e => (by cases e; exact lo17)) (fun kq e => (by cases e; exact lo8))))
 have rd104 := rd_sepM rd59 s101 (sp2 sp43 sp42)
 refine h4 _ _ ?_
 refine wp_ret ?_
 try simp only [Exit.then]
 refine retCTT (x1 := .slice A66 n67 c68) (x2 := .int .i64 x90) rfl kk kk kk x100 kk kk ?_
 exact ⟨_, _, _, _, ps26, _, _, _, vs69, _, rfl, ⟨⟨rd104, fm32, (freshA_mono fr34 z29)⟩, hsm28⟩, ⟨⟨rd102, fm76, (freshA_mono fr78 z72)⟩, by first | omega | (simp; omega)⟩, c103⟩
end Go.Proofs.Ytdbgfejeleafgaa
