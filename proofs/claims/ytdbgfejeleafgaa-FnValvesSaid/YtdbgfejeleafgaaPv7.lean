/- What the texts behind it build on; conditions: none. -/
import Derived.Test.YtdbgfejeleafgaaPv6
namespace Go.Proofs.Ytdbgfejeleafgaa
open Go.RowKit
set_option linter.unusedVariables false
set_option linter.unusedSimpArgs false
def freshA (H : Nat) (A : Option Addr) (n : Nat) : Prop := 0 < n → ∀ b off, A = some ⟨b, off, none⟩ → H ≤ b
theorem freshA_of {w : World} {base size n c k : Nat} {e : TypeId} {A : Option Addr} {xs : List Value} (h : w.ownsRow base e size (.slice A n c) k xs) {m : Nat} (hm : m ≤ n) : freshA base A m := fun hp b off e1 => (World.ownsRow.lt h b (by rw [e1]; rfl)).1
theorem freshA_mono {H H' n : Nat} {A : Option Addr} (h : freshA H A n) (h' : H' ≤ H) : freshA H' A n := fun hp b off e => Nat.le_trans h' (h hp b off e)
theorem sp_fresh {H n g : Nat} {A : Option Addr} (h : freshA H A n) (hg : g < H) : Sp A n (some g) := fun hp b off e e2 => by
  have := h hp b off e
  cases e2; omega
set_option maxRecDepth 100000 in
set_option maxHeartbeats 8000000 in
theorem pipeOf_any (B N k : Nat) (m : Int) (A : Option Addr) (n c : Nat) (ps : List Pp) (w : World) (hc : Cur w B N k) (hk : k ≤ 900000000000) (ha : Rd w 4 A n (pipesV ps)) (hsp : Sp A n (some B)) (hn : n ≤ 30) (hm : m ≤ 1000) :
    Calls Try.prog 70 #[.pointer (some ⟨B, 0, none⟩), .agg #[.int .i64 m, .slice A n c]] w fun e w' => ∃ x, e = .returned (.int .i64 x) ∧ (True) ∧ Cur w' B N (k + 4) ∧ w.grownBy w' (some B) := by
 have hN := Cur.hN hc
 have hlpl := rd_pipes_len ha
 go_enter Try.func70, Try.ntmps70
 refine F.begin 25 [(0, .pointer (some ⟨B, 0, none⟩)), (1, .agg #[.int .i64 m, .slice A n c])] (fun U0 => ?_)
 refine wk fun K1 h1 => ?_
 refine W.region_plain (row := none) [(0, true), (1, false)] kk ?_
 have s1 := SG.self w none
 refine W.sn (fun b => .pointer (some ⟨b, 0, none⟩)) #[.int .i64 m, .slice A n c] 26 s1 rfl kk rfl (fun _ => by kernel_rfl) (fun b2 w3 hb4 k5 x6 s7 => ?_)
 refine F.nx ?_
 have lo8 : w.heap.size ≤ b2 := Nat.le_trans ((SG.fr (B := B) (World.grownBy.refl _ _) s1 (fun kq e => by cases e))).size (Nat.le_of_eq hb4)
 have ne10 : B ≠ b2 := Nat.ne_of_lt (Nat.lt_of_lt_of_eq (Nat.lt_of_lt_of_le (Cur.lt hc) (s1).size) hb4)
 refine Fa (.int .i64 0) ?_
 refine F.es ?_
 have hc := Cur.below hc (SG.below s7)
 have c11 := (SG.fr (B := B) (World.grownBy.refl _ _) s7 (fun kq e => by cases e))
 have rd12 := Rd.kept ha (SG.below s7)
 refine h1 _ _ ?_
 refine wk fun K2 h2 => ?_
 refine wk fun K3 h3 => ?_
 refine W.region_plain (row := (some B)) [(0, false), (1, false), (2, false), (3, false), (4, false), (5, false), (6, true), (7, false)] kk ?_
 have s13 := SG.self w3 (some B)
 refine Fq (.pointer (some ⟨b2, 1, none⟩)) (r_field (k := 1) rfl ek kk) ?_
 refine Fl (.slice A n c) (sgS (blk_cell (j := 1) x6 kk) (fun e9 => ne10 (Option.some.inj e9).symm)) ?_
 refine Fq (.int .i64 (n : Int)) (r_len (A := A) (n := n) (c := c) rfl ek kk) ?_
 by_cases q14 : ((n : Int) : Int) = (0 : Int)
 ·refine Fq (.bool true) (r_eql (m := (n : Int)) (n := 0) rfl ek ek (decide_eq_true q14)) ?_
  refine Fv (.bool true) ?_
  refine Fs s13 ?_
  refine Fs s13 ?_
  refine Fq (.bool true) (r_pick (b := true) rfl ek ek) ?_
  refine F.es ?_
  have x6 := SG.blk s13 x6 (fun e9 => ne10 (Option.some.inj e9).symm)
  have c15 := (SG.fr (B := B) c11 s13 (fun kq e => .inl (by cases e; rfl)))
  refine h3 _ _ ?_
  refine wp_cond_true ek ?_
  refine wk fun K4 h4 => ?_
  refine W.region_plain (row := (some B)) [(0, false), (1, true), (2, false)] kk ?_
  have s17 := SG.self w3 (some B)
  refine Fv (.pointer (some ⟨B, 0, none⟩)) ?_
  refine Fc [.pointer (some ⟨B, 0, none⟩), .int .i64 20] (pick_any B N k 20 _ hc (by omega) (by omega)) ?_
  rintro e w21 ⟨x18, rfl, hx19, x23, g22⟩
  have s24 := SG.of_grown s17 g22 (.inl rfl)
  refine ⟨_, rfl, s24, ?_⟩
  refine F.nx ?_
  refine Fa (.int .i64 x18) ?_
  refine F.es ?_
  have x6 := SG.blk s24 x6 (fun e9 => ne10 (Option.some.inj e9).symm)
  have c25 := (SG.fr (B := B) c15 s24 (fun kq e => .inl (by cases e; rfl)))
  refine h4 _ _ ?_
  refine wp_ret ?_
  try simp only [Exit.then]
  refine ret1 (v := .int .i64 x18) rfl kk ?_
  exact ⟨_, rfl, trivial, Cur.mono x23 (by omega), c25⟩
 refine Fq (.bool false) (r_eql (m := (n : Int)) (n := 0) rfl ek ek (decide_eq_false q14)) ?_
 refine Fv (.bool false) ?_
 refine Fv (.pointer (some ⟨B, 0, none⟩)) ?_
 refine Fc [.pointer (some ⟨B, 0, none⟩), .int .i64 10] (one_any B N k 10 _ hc (by omega) (by omega)) ?_
 rintro e w30 ⟨b27, rfl, _, x32, g31⟩
 have s33 := SG.of_grown s13 g31 (.inl rfl)
 refine ⟨_, rfl, s33, ?_⟩
 refine F.nx ?_
 rcases Bool.eq_false_or_eq_true b27 with q34 | q34
 ·rw [q34]
  refine Fq (.bool true) (r_pick (b := false) rfl ek ek) ?_
  refine F.es ?_
  have x6 := SG.blk s33 x6 (fun e9 => ne10 (Option.some.inj e9).symm)
  have c35 := (SG.fr (B := B) c11 s33 (fun kq e => .inl (by cases e; rfl)))
  refine h3 _ _ ?_
  refine wp_cond_true ek ?_
  refine wk fun K5 h5 => ?_
  refine W.region_plain (row := (some B)) [(0, false), (1, true), (2, false)] kk ?_
  have s37 := SG.self w30 (some B)
  refine Fv (.pointer (some ⟨B, 0, none⟩)) ?_
  refine Fc [.pointer (some ⟨B, 0, none⟩), .int .i64 20] (pick_any B N (k + 2) 20 _ x32 (by omega) (by omega)) ?_
  rintro e w41 ⟨x38, rfl, hx39, x43, g42⟩
  have s44 := SG.of_grown s37 g42 (.inl rfl)
  refine ⟨_, rfl, s44, ?_⟩
  refine F.nx ?_
  refine Fa (.int .i64 x38) ?_
  refine F.es ?_
  have x6 := SG.blk s44 x6 (fun e9 => ne10 (Option.some.inj e9).symm)
  have c45 := (SG.fr (B := B) c35 s44 (fun kq e => .inl (by cases e; rfl)))
  refine h5 _ _ ?_
  refine wp_ret ?_
  try simp only [Exit.then]
  refine ret1 (v := .int .i64 x38) rfl kk ?_
  exact ⟨_, rfl, trivial, Cur.mono x43 (by omega), c45⟩
 rw [q34]
 refine Fq (.bool false) (r_pick (b := false) rfl ek ek) ?_
 refine F.es ?_
 have x6 := SG.blk s33 x6 (fun e9 => ne10 (Option.some.inj e9).symm)
 have c47 := (SG.fr (B := B) c11 s33 (fun kq e => .inl (by cases e; rfl)))
 have rd48 := rd_sep rd12 s33 hsp
 refine h3 _ _ ?_
 refine wp_cond_false ek ?_
 refine wp_skip ?_
 refine h2 _ _ ?_
 refine wk fun K6 h6 => ?_
 refine W.region_sch (row := (some B)) (Sch.of [(0, false), (1, false), (2, false), (3, false), (4, false), (5, false), (6, true), (7, false), (8, false), (9, false), (10, false)]) kk kk (fun _ d _ _ _ h => by cases d <;> exact h) kk (fun w49 e50 s51 => ?_)
 have x52 := Cur.heap x32 e50
 refine Fq (.pointer (some ⟨b2, 1, none⟩)) (r_field (k := 1) rfl ek kk) ?_
 refine Fl (.slice A n c) (sgS (blk_cell (j := 1) x6 kk) (fun e9 => ne10 (Option.some.inj e9).symm)) ?_
 refine Fv (.pointer (some ⟨B, 0, none⟩)) ?_
 refine Fq (.pointer (some ⟨b2, 1, none⟩)) (r_field (k := 1) rfl ek kk) ?_
 refine Fl (.slice A n c) (sgS (blk_cell (j := 1) x6 kk) (fun e9 => ne10 (Option.some.inj e9).symm)) ?_
 refine Fq (.int .i64 (n : Int)) (r_len (A := A) (n := n) (c := c) rfl ek kk) ?_
 refine Fc [.pointer (some ⟨B, 0, none⟩), .int .i64 (n : Int)] (pick_any B N (k + 2) (n : Int) _ x52 (by omega) (by omega)) ?_
 rintro e w56 ⟨x53, rfl, hx54, x58, g57⟩
 have s59 := SG.of_grown s51 g57 (.inl rfl)
 refine ⟨_, rfl, s59, ?_⟩
 refine F.nx ?_
 obtain ⟨x60, hx61⟩ := get_of (zs := ps) (k := x53.toNat) (by have := hlpl; omega)
 obtain ⟨b62, o63, hA64, hb65, hc66, hc67, hc68, hc69⟩ := Rd.elPipe rd48 hx61
 refine Fq (.pointer (some ⟨b62, o63 + x53.toNat * 4, none⟩)) (r_idx (n := n) (c := c) (k := x53.toNat) rfl ek hA64 (evk (z := x53) kk (by omega)) kk (by have := hlpl; omega)) ?_
 refine Fq (.pointer (some ⟨b62, o63 + x53.toNat * 4, none⟩)) (r_field0 rfl ek kk) ?_
 refine Fl (.int .i64 x60.id) (sgS hc66 (hsp (by omega) _ _ hA64)) ?_
 refine Fa (.int .i64 x60.id) ?_
 refine F.es ?_
 have c70 := (SG.fr (B := B) c47 s59 (fun kq e => .inl (by cases e; rfl)))
 refine h6 _ _ ?_
 refine wp_ret ?_
 try simp only [Exit.then]
 refine ret1 (v := .int .i64 x60.id) rfl kk ?_
 exact ⟨_, rfl, trivial, Cur.mono x58 (by omega), c70⟩
theorem snoc_lenV {vs : List Vv} {x : Vv} : (vs ++ [x]).length = vs.length + 1 := by simp
set_option maxRecDepth 100000 in
set_option maxHeartbeats 8000000 in
theorem valves_any (B N k : Nat) (m : Int) (A : Option Addr) (n c : Nat) (ps : List Pp) (w : World) (hc : Cur w B N k) (hk : k ≤ 800000000000) (ha : Rd w 4 A n (pipesV ps)) (hsp : Sp A n (some B)) (hn : n ≤ 30) (hm : m ≤ 1000) :
    Calls Try.prog 69 #[.pointer (some ⟨B, 0, none⟩), .agg #[.int .i64 m, .slice A n c]] w fun e w' => ∃ (A' : Option Addr) (n' c' : Nat) (vs : List Vv), e = .returned (.slice A' n' c') ∧ (w'.ownsRow w.heap.size 40 4 (.slice A' n' c') n' (valvesV vs) ∧ vs.length ≤ 11) ∧ Cur w' B N (k + 400) ∧ w.grownBy w' (some B) := by
 have hN := Cur.hN hc
 have hlpl := rd_pipes_len ha
 go_enter Try.func69, Try.ntmps69
 refine F.begin 94 [(0, .pointer (some ⟨B, 0, none⟩)), (1, .agg #[.int .i64 m, .slice A n c])] (fun U0 => ?_)
 refine wk fun K1 h1 => ?_
 refine W.region_plain (row := none) [(0, true), (1, false)] kk ?_
 have s1 := SG.self w none
 refine W.sn (fun b => .pointer (some ⟨b, 0, none⟩)) #[.int .i64 m, .slice A n c] 26 s1 rfl kk rfl (fun _ => by kernel_rfl) (fun b2 w3 hb4 k5 x6 s7 => ?_)
 refine F.nx ?_
 have lo8 : w.heap.size ≤ b2 := Nat.le_trans ((SG.fr (B := B) (World.grownBy.refl _ _) s1 (fun kq e => by cases e))).size (Nat.le_of_eq hb4)
 have ne10 : B ≠ b2 := Nat.ne_of_lt (Nat.lt_of_lt_of_eq (Nat.lt_of_lt_of_le (Cur.lt hc) (s1).size) hb4)
 refine Fa (.slice none 0 0) ?_
 refine F.es ?_
 have hc := Cur.below hc (SG.below s7)
 have c11 := (SG.fr (B := B) (World.grownBy.refl _ _) s7 (fun kq e => by cases e))
 have rd12 := Rd.kept ha (SG.below s7)
 refine h1 _ _ ?_
 refine wk fun K2 h2 => ?_
 refine W.region_plain (row := none) [(0, true), (1, false)] kk ?_
 have s13 := SG.self w3 none
 refine W.sn (fun b => .slice (some ⟨b, 0, none⟩) 0 0) #[] 40 s13 rfl kk rfl (fun _ => by kernel_rfl) (fun b14 w15 hb16 k17 x18 s19 => ?_)
 refine F.nx ?_
 have lo20 : w.heap.size ≤ b14 := Nat.le_trans ((SG.fr (B := B) c11 s13 (fun kq e => by cases e))).size (Nat.le_of_eq hb16)
 have sp21 : Sp A n (some b14) := sp_new rd12 (by have := (s13).size; have := hb16; omega)
 have ne22 : B ≠ b14 := Nat.ne_of_lt (Nat.lt_of_lt_of_eq (Nat.lt_of_lt_of_le (Cur.lt hc) (s13).size) hb16)
 have ne23 : b2 ≠ b14 := Nat.ne_of_lt (Nat.lt_of_lt_of_eq (Nat.lt_of_lt_of_le (blk_lt x6) (s13).size) hb16)
 refine Fa (.slice (some ⟨b14, 0, none⟩) 0 0) ?_
 refine F.es ?_
 have hc := Cur.below hc (SG.below s19)
 have x6 := SG.blk s19 x6 (Option.some_ne_none _)
 have c24 := (SG.fr (B := B) c11 s19 (fun kq e => by cases e))
 have rd25 := Rd.kept rd12 (SG.below s19)
 refine h2 _ _ ?_
 refine wk fun K3 h3 => ?_
 refine W.region_quiet [(0, false)] kk ?_
 refine Fa (.int .i64 0) ?_
 refine F.es ?_
 refine h3 _ _ ?_
 refine wk fun K4 h4 => ?_
 refine wk fun K5 h5 => ?_
 refine W.region_quiet [(0, false)] kk ?_
 refine Fa (.int .i64 0) ?_
 refine F.es ?_
 refine h5 _ _ ?_
 refine wp_block ?_
 have ho26 := own_empty (base := w.heap.size) (size := 4) x18 lo20
 replace ho26 : World.ownsRow _ _ _ _ _ _ (valvesV []) := ho26
 have sp27 := sp_own (n' := 0) (c := 0) sp21
 have nb28 : Nb B (.slice (some ⟨b14, 0, none⟩) 0 0) := nb_new ne22
 have nb29 : Nb b2 (.slice (some ⟨b14, 0, none⟩) 0 0) := nb_new ne23
 refine loopK (fun am0 aa0 wl0 => ∃ (i : Nat) (d0 : Int) (us0 : List Vv) (A0_5 : Option Addr) (n0_5 : Nat) (c0_5 : Nat) , Kn aa0 [(0, .pointer (some ⟨B, 0, none⟩)), (1, .agg #[.int .i64 m, .slice A n c]), (3, .pointer (some ⟨b2, 0, none⟩)), (4, .slice none 0 0), (5, .slice A0_5 n0_5 c0_5), (6, .int .i64 d0), (7, .int .i64 (i : Int))] 94 ∧ (am0 = n - i) ∧ (i ≤ n) ∧ (0 ≤ d0 ∧ d0 ≤ 4 * i) ∧ (us0.length ≤ 10) ∧ (Cur wl0 B N (k + 12 * i)) ∧ (wl0.heap[b2]? = some (.cells #[.int .i64 m, .slice A n c] 26 (0, 0))) ∧ (wl0.ownsRow w.heap.size 40 4 (.slice A0_5 n0_5 c0_5) n0_5 (valvesV us0)) ∧ (Nb B (.slice A0_5 n0_5 c0_5)) ∧ (Nb b2 (.slice A0_5 n0_5 c0_5)) ∧ (Rd wl0 4 A n (pipesV ps)) ∧ (Sp A n (Value.ownBlock (.slice A0_5 n0_5 c0_5))) ∧ (w.grownBy wl0 (some B))) (n - 0) ?_ ?_
 ·exact ⟨0, 0, [], (some ⟨b14, 0, none⟩), 0, 0, Kn.of, rfl, (by omega), (⟨by omega, by omega⟩), (by simp), (Cur.mono hc (by omega)), x6, ho26, nb28, nb29, rd25, sp27, c24⟩
 rintro am0 aa0 wl0 K6 h6 ⟨i, d0, us0, A0_5, n0_5, c0_5, ⟨U0, rfl⟩, rfl, hi, hd, hu0, hc, x6, ho0_5, nb0_5_B, nb0_5_b2, kl0_0, sq0_0_5, c30⟩
 have hlr0 := rd_valves_len (own_rd ho0_5)
 refine wk fun K7 h7 => ?_
 refine wk fun K8 h8 => ?_
 refine W.region_quiet [(0, false), (1, false), (2, false), (3, false), (4, false)] kk ?_
 refine Fv (.int .i64 (i : Int)) ?_
 refine Fq (.pointer (some ⟨b2, 1, none⟩)) (r_field (k := 1) rfl ek kk) ?_
 refine Fl (.slice A n c) (eqS (blk_cell (j := 1) x6 kk)) ?_
 refine Fq (.int .i64 (n : Int)) (r_len (A := A) (n := n) (c := c) rfl ek kk) ?_
 by_cases q31 : ((i : Int) : Int) < ((n : Int) : Int)
 ·refine Fq (.bool true) (r_lss (m := (i : Int)) (n := (n : Int)) rfl ek ek (decide_eq_true q31)) ?_
  refine F.es ?_
  refine h8 _ _ ?_
  refine wp_cond_true ek ?_
  refine wp_skip ?_
  refine h7 _ _ ?_
  refine wk fun K9 h9 => ?_
  refine wp_block ?_
  refine wk fun K10 h10 => ?_
  refine W.region_quiet [(0, false)] kk ?_
  refine Fa (.int .i64 0) ?_
  refine F.es ?_
  refine h10 _ _ ?_
  refine wp_block ?_
  refine loopK (fun am1 aa1 wl1 => ∃ (j : Nat) (d1 : Int) (us1 : List Vv) (A1_5 : Option Addr) (n1_5 : Nat) (c1_5 : Nat) , Kn aa1 [(0, .pointer (some ⟨B, 0, none⟩)), (1, .agg #[.int .i64 m, .slice A n c]), (3, .pointer (some ⟨b2, 0, none⟩)), (4, .slice none 0 0), (5, .slice A1_5 n1_5 c1_5), (6, .int .i64 d1), (7, .int .i64 (i : Int)), (8, .int .i64 (j : Int)), (15, .bool true)] 94 ∧ (am1 = 2 - j) ∧ (j ≤ 2) ∧ (0 ≤ d1 ∧ d1 ≤ 4 * i + 2 * j) ∧ (us1.length ≤ 10) ∧ (Cur wl1 B N (k + 12 * i + 6 * j)) ∧ (wl1.heap[b2]? = some (.cells #[.int .i64 m, .slice A n c] 26 (0, 0))) ∧ (wl1.ownsRow w.heap.size 40 4 (.slice A1_5 n1_5 c1_5) n1_5 (valvesV us1)) ∧ (Nb B (.slice A1_5 n1_5 c1_5)) ∧ (Nb b2 (.slice A1_5 n1_5 c1_5)) ∧ (Rd wl1 4 A n (pipesV ps)) ∧ (Sp A n (Value.ownBlock (.slice A1_5 n1_5 c1_5))) ∧ (w.grownBy wl1 (some B))) (2 - 0) ?_ ?_
  ·exact ⟨0, d0, us0, A0_5, n0_5, c0_5, Kn.of, rfl, (by omega), (⟨by omega, by omega⟩), (by omega), (Cur.mono hc (by omega)), x6, ho0_5, nb0_5_B, nb0_5_b2, kl0_0, sq0_0_5, c30⟩
  rintro am1 aa1 wl1 K11 h11 ⟨j, d1, us1, A1_5, n1_5, c1_5, ⟨U1, rfl⟩, rfl, hj, hd1, hu1, hc, x6, ho1_5, nb1_5_B, nb1_5_b2, kl1_0, sq1_0_5, c32⟩
  have hlr1 := rd_valves_len (own_rd ho1_5)
  refine wk fun K12 h12 => ?_
  refine wk fun K13 h13 => ?_
  refine W.region_quiet [(0, false), (1, false)] kk ?_
  refine Fv (.int .i64 (j : Int)) ?_
  by_cases q33 : ((j : Int) : Int) < (2 : Int)
  ·refine Fq (.bool true) (r_lss (m := (j : Int)) (n := 2) rfl ek ek (decide_eq_true q33)) ?_
   refine F.es ?_
   refine h13 _ _ ?_
   refine wp_cond_true ek ?_
   refine wp_skip ?_
   refine h12 _ _ ?_
   refine wk fun K14 h14 => ?_
   refine wp_block ?_
   refine wk fun K15 h15 => ?_
   refine wk fun K16 h16 => ?_
   refine W.region_plain (row := (some B)) [(0, false), (1, true), (2, false), (3, false), (4, false), (5, false), (6, false)] kk ?_
   have s34 := SG.self wl1 (some B)
   refine Fv (.pointer (some ⟨B, 0, none⟩)) ?_
   refine Fc [.pointer (some ⟨B, 0, none⟩), .int .i64 2] (one_any B N (k + 12 * i + 6 * j) 2 _ hc (by omega) (by omega)) ?_
   rintro e w38 ⟨b35, rfl, _, x40, g39⟩
   have s41 := SG.of_grown s34 g39 (.inl rfl)
   refine ⟨_, rfl, s41, ?_⟩
   refine F.nx ?_
   have ho42 := own_grown ho1_5 g39 (fun j e1 e2 => by cases e2; exact nb1_5_B e1.symm)
   rcases Bool.eq_false_or_eq_true b35 with q43 | q43
   ·rw [q43]
    refine Fv (.bool true) ?_
    refine Fs s41 ?_
    refine Fs s41 ?_
    refine Fs s41 ?_
    refine Fq (.bool true) (r_pick (b := true) rfl ek ek) ?_
    refine F.es ?_
    have x6 := SG.blk s41 x6 (fun e9 => ne10 (Option.some.inj e9).symm)
    have c44 := (SG.fr (B := B) c32 s41 (fun kq e => .inl (by cases e; rfl)))
    have rd45 := rd_sep kl1_0 s41 hsp
    refine h16 _ _ ?_
    refine wp_cond_true ek ?_
    refine wp_exit ?_
    refine h14 _ _ ?_
    refine W.region_quiet [(0, false), (1, false), (2, false)] kk ?_
    refine Fv (.int .i64 (j : Int)) ?_
    refine Fq (.int .i64 ((j + 1 : Nat) : Int)) (r_add (m := (j : Int)) (n := 1) (z := ((j + 1 : Nat) : Int)) rfl ek ek (by omega) (by omega)) ?_
    refine Fa (.int .i64 ((j + 1 : Nat) : Int)) ?_
    refine F.es ?_
    exact h11 _ _ _ (by omega : (2 - (j + 1)) < _) ⟨j + 1, d1, us1, A1_5, n1_5, c1_5, Kn.of, rfl, (by omega), (⟨by omega, by omega⟩), (by omega), (Cur.mono x40 (by omega)), x6, ho42, nb1_5_B, nb1_5_b2, rd45, sq1_0_5, c44⟩
   rw [q43]
   refine Fv (.bool false) ?_
   refine Fv (.slice A1_5 n1_5 c1_5) ?_
   refine Fq (.int .i64 (n1_5 : Int)) (r_len (A := A1_5) (n := n1_5) (c := c1_5) rfl ek kk) ?_
   by_cases q46 : ((n1_5 : Int) : Int) ≥ (10 : Int)
   ·refine Fq (.bool true) (r_geq (m := (n1_5 : Int)) (n := 10) rfl ek ek (decide_eq_true q46)) ?_
    refine Fq (.bool true) (r_pick (b := false) rfl ek ek) ?_
    refine F.es ?_
    have x6 := SG.blk s41 x6 (fun e9 => ne10 (Option.some.inj e9).symm)
    have c47 := (SG.fr (B := B) c32 s41 (fun kq e => .inl (by cases e; rfl)))
    have rd48 := rd_sep kl1_0 s41 hsp
    refine h16 _ _ ?_
    refine wp_cond_true ek ?_
    refine wp_exit ?_
    refine h14 _ _ ?_
    refine W.region_quiet [(0, false), (1, false), (2, false)] kk ?_
    refine Fv (.int .i64 (j : Int)) ?_
    refine Fq (.int .i64 ((j + 1 : Nat) : Int)) (r_add (m := (j : Int)) (n := 1) (z := ((j + 1 : Nat) : Int)) rfl ek ek (by omega) (by omega)) ?_
    refine Fa (.int .i64 ((j + 1 : Nat) : Int)) ?_
    refine F.es ?_
    exact h11 _ _ _ (by omega : (2 - (j + 1)) < _) ⟨j + 1, d1, us1, A1_5, n1_5, c1_5, Kn.of, rfl, (by omega), (⟨by omega, by omega⟩), (by omega), (Cur.mono x40 (by omega)), x6, ho42, nb1_5_B, nb1_5_b2, rd48, sq1_0_5, c47⟩
   refine Fq (.bool false) (r_geq (m := (n1_5 : Int)) (n := 10) rfl ek ek (decide_eq_false q46)) ?_
   refine Fq (.bool false) (r_pick (b := false) rfl ek ek) ?_
   refine F.es ?_
   have x6 := SG.blk s41 x6 (fun e9 => ne10 (Option.some.inj e9).symm)
   have c49 := (SG.fr (B := B) c32 s41 (fun kq e => .inl (by cases e; rfl)))
   have rd50 := rd_sep kl1_0 s41 hsp
   refine h16 _ _ ?_
   refine wp_cond_false ek ?_
   refine wp_skip ?_
   refine h15 _ _ ?_
   refine wk fun K17 h17 => ?_
   refine W.region_plain (row := (some B)) [(0, false), (1, false), (2, false), (3, true), (4, false), (5, false)] kk ?_
   have s51 := SG.self w38 (some B)
   refine Fv (.int .i64 d1) ?_
   refine Fq (.int .i64 (d1 + 1)) (r_add (m := d1) (n := 1) (z := d1 + 1) rfl ek ek (rfl) (by omega)) ?_
   refine Fv (.pointer (some ⟨B, 0, none⟩)) ?_
   refine Fc [.pointer (some ⟨B, 0, none⟩), .int .i64 2] (pick_any B N (k + 12 * i + 6 * j + 2) 2 _ x40 (by omega) (by omega)) ?_
   rintro e w55 ⟨x52, rfl, hx53, x57, g56⟩
   have s58 := SG.of_grown s51 g56 (.inl rfl)
   refine ⟨_, rfl, s58, ?_⟩
   refine F.nx ?_
   have ho59 := own_grown ho42 g56 (fun j e1 e2 => by cases e2; exact nb1_5_B e1.symm)
   refine Fq (.int .i64 (d1 + 1 + x52)) (r_add (m := d1 + 1) (n := x52) (z := d1 + 1 + x52) rfl ek ek (rfl) (by omega)) ?_
   refine Fa (.int .i64 (d1 + 1 + x52)) ?_
   refine F.es ?_
   have x6 := SG.blk s58 x6 (fun e9 => ne10 (Option.some.inj e9).symm)
   have c60 := (SG.fr (B := B) c49 s58 (fun kq e => .inl (by cases e; rfl)))
   have rd61 := rd_sep rd50 s58 hsp
   refine h17 _ _ ?_
   refine M.region_sch (row := [(some B), (Value.ownBlock (.slice A1_5 n1_5 c1_5))]) (Sch.app [(0, false), (1, false), (2, false), (3, false), (4, false), (5, false), (6, false), (7, false), (8, false), (9, false), (10, false), (11, false), (12, false), (13, false), (14, false), (15, false), (16, false), (17, false), (18, false), (19, false), (21, false), (24, false)] (.br 20 25 (Sch.app [(22, false)] (.br 23 25 (Sch.of [(25, true), (26, false), (27, true), (28, true), (29, false)]) (Sch.of [(23, true), (26, false), (27, true), (28, true), (29, false)]))) (Sch.of [(20, true), (22, false), (23, true), (26, false), (27, true), (28, true), (29, false)]))) kk kk (fun _ d _ _ _ h => by cases d <;> exact h) kk (fun w62 e63 s64 => ?_)
   have ho65 := own_heap ho59 e63
   have x66 := Cur.heap x57 e63
   refine Fv (.slice A1_5 n1_5 c1_5) ?_
   refine Fv (.int .i64 (d1 + 1 + x52)) ?_
   refine Fq (.pointer (some ⟨b2, 1, none⟩)) (r_field (k := 1) rfl ek kk) ?_
   refine Fl (.slice A n c) (smS (blk_cell (j := 1) x6 kk) (ne2 (fun e9 => ne10 (Option.some.inj e9).symm) nb1_5_b2)) ?_
   refine Fv (.int .i64 (i : Int)) ?_
   obtain ⟨x67, hx68⟩ := get_of (zs := ps) (k := i) (by have := hlpl; omega)
   obtain ⟨b69, o70, hA71, hb72, hc73, hc74, hc75, hc76⟩ := Rd.elPipe rd61 hx68
   refine Fq (.pointer (some ⟨b69, o70 + i * 4, none⟩)) (r_idx (n := n) (c := c) (k := i) rfl ek hA71 kk kk (by have := hlpl; omega)) ?_
   refine Fq (.pointer (some ⟨b69, o70 + i * 4, none⟩)) (r_field0 rfl ek kk) ?_
   refine Fl (.int .i64 x67.id) (smS hc73 (ne2 (hsp (by omega) _ _ hA71) (sq1_0_5 (by omega) _ _ hA71))) ?_
   refine Fq (.pointer (some ⟨b2, 1, none⟩)) (r_field (k := 1) rfl ek kk) ?_
   refine Fl (.slice A n c) (smS (blk_cell (j := 1) x6 kk) (ne2 (fun e9 => ne10 (Option.some.inj e9).symm) nb1_5_b2)) ?_
   refine Fv (.int .i64 (i : Int)) ?_
   obtain ⟨b77, o78, hA79, hb80, hc81, hc82, hc83, hc84⟩ := Rd.elPipe rd61 hx68
   refine Fq (.pointer (some ⟨b77, o78 + i * 4, none⟩)) (r_idx (n := n) (c := c) (k := i) rfl ek hA79 kk kk (by have := hlpl; omega)) ?_
   refine Fq (.pointer (some ⟨b77, o78 + i * 4 + 1, none⟩)) (r_field (k := 1) rfl ek kk) ?_
   refine Fl (.int .i64 x67.fr) (smS hc82 (ne2 (hsp (by omega) _ _ hA79) (sq1_0_5 (by omega) _ _ hA79))) ?_
   refine Fq (.pointer (some ⟨b2, 1, none⟩)) (r_field (k := 1) rfl ek kk) ?_
   refine Fl (.slice A n c) (smS (blk_cell (j := 1) x6 kk) (ne2 (fun e9 => ne10 (Option.some.inj e9).symm) nb1_5_b2)) ?_
   refine Fv (.int .i64 (i : Int)) ?_
   obtain ⟨b85, o86, hA87, hb88, hc89, hc90, hc91, hc92⟩ := Rd.elPipe rd61 hx68
   refine Fq (.pointer (some ⟨b85, o86 + i * 4, none⟩)) (r_idx (n := n) (c := c) (k := i) rfl ek hA87 kk kk (by have := hlpl; omega)) ?_
   refine Fq (.pointer (some ⟨b85, o86 + i * 4 + 2, none⟩)) (r_field (k := 2) rfl ek kk) ?_
   refine Fl (.int .i64 x67.to) (smS hc91 (ne2 (hsp (by omega) _ _ hA87) (sq1_0_5 (by omega) _ _ hA87))) ?_
   refine Fv (.int .i64 (j : Int)) ?_
   refine Fv (.pointer (some ⟨B, 0, none⟩)) ?_
   refine W.sbr ?_ ?_
   ·refine M.sn (fun b => .slice (some ⟨b, 0, none⟩) 2 2) #[.int .i64 x67.fr, .int .i64 x67.to] 3 s64 rfl kk rfl (fun _ => by kernel_rfl) (fun b93 w94 hb95 k96 x97 s98 => ?_)
    refine F.nx ?_
    have lo99 : w.heap.size ≤ b93 := Nat.le_trans ((SM.fr (B := B) c60 s64 (in2 (fun kq e => .inl (by cases e; rfl)) (fun kq e => .inr (World.ownsRow.lt ho59 kq e).1)))).size (Nat.le_of_eq hb95)
    have ne101 : B ≠ b93 := Nat.ne_of_lt (Nat.lt_of_lt_of_eq (Cur.lt x66) hb95)
    have x66 := Cur.below x66 k96
    have ho104 := own_kept ho65 k96
    have ho105 := own_blk (base := w.heap.size) (size := 1) (n := 2) x97 lo99 rfl (by omega)
    replace ho105 : World.ownsRow _ _ _ _ _ _ (intsV [x67.fr, x67.to]) := ho105
    have nb108 : Nb B (.slice (some ⟨b93, 0, none⟩) 2 2) := nb_new ne101
    have rd111 := own_rd ho105
    have hl112 := rd_ints_len rd111
    have sp113 := sp_of_nb (n := 2) nb108
    obtain ⟨x115, hx116⟩ := get_of (zs := [x67.fr, x67.to]) (k := j) (by have := hl112; omega)
    obtain ⟨b117, o118, hA119, hb120, hc121⟩ := Rd.elInt rd111 hx116
    refine Fq (.pointer (some ⟨b117, o118 + j, none⟩)) (r_idx1 (n := 2) (c := 2) (k := j) rfl ek hA119 kk kk (by have := hl112; omega)) ?_
    refine W.sbr ?_ ?_
    ·refine W.slq (v := .int .i64 x115) s98 rfl (r_load rfl kk kk (eqS hc121)) kk rfl ?_
     refine F.nx ?_
     refine Fc [.pointer (some ⟨B, 0, none⟩), .int .i64 3] (one_any B N ((k + 12 * i + 6 * j + 2) + 2) 3 _ x66 (by omega) (by omega)) ?_
     rintro e w125 ⟨b122, rfl, _, x127, g126⟩
     have s128 := SM.of_grown s98 g126 (.inl (by simp))
     refine ⟨_, rfl, s128, ?_⟩
     refine F.nx ?_
     have ho129 := own_grown ho104 g126 (fun j e1 e2 => by cases e2; exact nb1_5_B e1.symm)
     rcases Bool.eq_false_or_eq_true b122 with q131 | q131
     ·rw [q131]
      refine Fq (.agg #[.int .i64 (d1 + 1 + x52), .int .i64 x67.id, .int .i64 x115, .bool true]) (r_build rfl (vs := [(0, .int .i64 (d1 + 1 + x52)), (1, .int .i64 x67.id), (2, .int .i64 x115), (3, .bool true)]) kk kk) ?_
      refine M.sn (fun b => .slice (some ⟨b, 0, none⟩) 1 1) #[.int .i64 (d1 + 1 + x52), .int .i64 x67.id, .int .i64 x115, .bool true] 40 s128 rfl kk rfl (fun _ => by kernel_rfl) (fun b132 w133 hb134 k135 x136 s137 => ?_)
      refine F.nx ?_
      have lo138 : w.heap.size ≤ b132 := Nat.le_trans ((SM.fr (B := B) c60 s128 (in2 (fun kq e => .inl (by cases e; rfl)) (fun kq e => .inr (World.ownsRow.lt ho59 kq e).1)))).size (Nat.le_of_eq hb134)
      have x127 := Cur.below x127 k135
      have ho143 := own_kept ho129 k135
      refine M.sap (e := 40) (size := 4) (base := w.heap.size) (m := 1) (v := .slice A1_5 n1_5 c1_5) (c := 1) s137 rfl rfl rfl rfl kk kk kk ho143 x136 kk kk (by omega) (by omega) (by have := ((SM.fr (B := B) c60 s137 (in2 (fun kq e => .inl (by cases e; rfl)) (fun kq e => .inr (World.ownsRow.lt ho59 kq e).1)))).size; omega) (.inl (by simp)) (fun g145 cap146 w147 ho148 hg149 hat150 hlt151 s152 => ?_)
      refine F.nx ?_
      have nb153 : Nb B (.slice (some ⟨g145, 0, none⟩) (n1_5 + 1) cap146) := nb_app nb1_5_B (Cur.lt x127) hat150
      have x127 := Cur.grown x127 hg149 nb1_5_B (fun j e => Nat.le_trans hN (World.ownsRow.lt ho143 j e).1)
      have nb154 : Nb b2 (.slice (some ⟨g145, 0, none⟩) (n1_5 + 1) cap146) := nb_app nb1_5_b2 (Nat.lt_of_lt_of_le (blk_lt x6) (s137).size) hat150
      have ho148 := own_snocV (x := (Vv.mk (d1 + 1 + x52) x67.id x115 true)) ho148
      have sp156 := sp_app (v' := .slice (some ⟨g145, 0, none⟩) (n1_5 + 1) cap146) sq1_0_5 rd61 ((s137).size) (hat3 (v := .slice A1_5 n1_5 c1_5) hat150)
      refine Fa (.slice (some ⟨g145, 0, none⟩) (n1_5 + 1) cap146) ?_
      refine F.es ?_
      have x6 := SM.blk s152 x6 (ne2 (fun e9 => ne10 (Option.some.inj e9).symm) nb1_5_b2)
      have c157 := (SM.fr (B := B) c60 s152 (in2 (fun kq e => .inl (by cases e; rfl)) (fun kq e => .inr (World.ownsRow.lt ho59 kq e).1)))
      have rd158 := rd_sepM rd61 s152 (sp2 hsp sq1_0_5)
      refine h14 _ _ ?_
      refine W.region_quiet [(0, false), (1, false), (2, false)] kk ?_
      refine Fv (.int .i64 (j : Int)) ?_
      refine Fq (.int .i64 ((j + 1 : Nat) : Int)) (r_add (m := (j : Int)) (n := 1) (z := ((j + 1 : Nat) : Int)) rfl ek ek (by omega) (by omega)) ?_
      refine Fa (.int .i64 ((j + 1 : Nat) : Int)) ?_
      refine F.es ?_
      exact h11 _ _ _ (by omega : (2 - (j + 1)) < _) ⟨j + 1, d1 + 1 + x52, (us1 ++ [(Vv.mk (d1 + 1 + x52) x67.id x115 true)]), (some ⟨g145, 0, none⟩), (n1_5 + 1), cap146, Kn.of, rfl, (by omega), (⟨by omega, by omega⟩), (by rw [snoc_lenV]; omega), (Cur.mono x127 (by omega)), x6, ho148, nb153, nb154, rd158, sp156, c157⟩
     rw [q131]
     refine Fq (.agg #[.int .i64 (d1 + 1 + x52), .int .i64 x67.id, .int .i64 x115, .bool false]) (r_build rfl (vs := [(0, .int .i64 (d1 + 1 + x52)), (1, .int .i64 x67.id), (2, .int .i64 x115), (3, .bool false)]) kk kk) ?_
     refine M.sn (fun b => .slice (some ⟨b, 0, none⟩) 1 1) #[.int .i64 (d1 + 1 + x52), .int .i64 x67.id, .int .i64 x115, .bool false] 40 s128 rfl kk rfl (fun _ => by kernel_rfl) (fun b159 w160 hb161 k162 x163 s164 => ?_)
     refine F.nx ?_
     have lo165 : w.heap.size ≤ b159 := Nat.le_trans ((SM.fr (B := B) c60 s128 (in2 (fun kq e => .inl (by cases e; rfl)) (fun kq e => .inr (World.ownsRow.lt ho59 kq e).1)))).size (Nat.le_of_eq hb161)
     have x127 := Cur.below x127 k162
     have ho170 := own_kept ho129 k162
     refine M.sap (e := 40) (size := 4) (base := w.heap.size) (m := 1) (v := .slice A1_5 n1_5 c1_5) (c := 1) s164 rfl rfl rfl rfl kk kk kk ho170 x163 kk kk (by omega) (by omega) (by have := ((SM.fr (B := B) c60 s164 (in2 (fun kq e => .inl (by cases e; rfl)) (fun kq e => .inr (World.ownsRow.lt ho59 kq e).1)))).size; omega) (.inl (by simp)) (fun g172 cap173 w174 ho175 hg176 hat177 hlt178 s179 => ?_)
     refine F.nx ?_
     have nb180 : Nb B (.slice (some ⟨g172, 0, none⟩) (n1_5 + 1) cap173) := nb_app nb1_5_B (Cur.lt x127) hat177
     have x127 := Cur.grown x127 hg176 nb1_5_B (fun j e => Nat.le_trans hN (World.ownsRow.lt ho170 j e).1)
     have nb181 : Nb b2 (.slice (some ⟨g172, 0, none⟩) (n1_5 + 1) cap173) := nb_app nb1_5_b2 (Nat.lt_of_lt_of_le (blk_lt x6) (s164).size) hat177
     have ho175 := own_snocV (x := (Vv.mk (d1 + 1 + x52) x67.id x115 false)) ho175
     have sp183 := sp_app (v' := .slice (some ⟨g172, 0, none⟩) (n1_5 + 1) cap173) sq1_0_5 rd61 ((s164).size) (hat3 (v := .slice A1_5 n1_5 c1_5) hat177)
     refine Fa (.slice (some ⟨g172, 0, none⟩) (n1_5 + 1) cap173) ?_
     refine F.es ?_
     have x6 := SM.blk s179 x6 (ne2 (fun e9 => ne10 (Option.some.inj e9).symm) nb1_5_b2)
     have c184 := (SM.fr (B := B) c60 s179 (in2 (fun kq e => .inl (by cases e; rfl)) (fun kq e => .inr (World.ownsRow.lt ho59 kq e).1)))
     have rd185 := rd_sepM rd61 s179 (sp2 hsp sq1_0_5)
     refine h14 _ _ ?_
     refine W.region_quiet [(0, false), (1, false), (2, false)] kk ?_
     refine Fv (.int .i64 (j : Int)) ?_
     refine Fq (.int .i64 ((j + 1 : Nat) : Int)) (r_add (m := (j : Int)) (n := 1) (z := ((j + 1 : Nat) : Int)) rfl ek ek (by omega) (by omega)) ?_
     refine Fa (.int .i64 ((j + 1 : Nat) : Int)) ?_
     refine F.es ?_
     exact h11 _ _ _ (by omega : (2 - (j + 1)) < _) ⟨j + 1, d1 + 1 + x52, (us1 ++ [(Vv.mk (d1 + 1 + x52) x67.id x115 false)]), (some ⟨g172, 0, none⟩), (n1_5 + 1), cap173, Kn.of, rfl, (by omega), (⟨by omega, by omega⟩), (by rw [snoc_lenV]; omega), (Cur.mono x127 (by omega)), x6, ho175, nb180, nb181, rd185, sp183, c184⟩
    refine Fc [.pointer (some ⟨B, 0, none⟩), .int .i64 3] (one_any B N ((k + 12 * i + 6 * j + 2) + 2) 3 _ x66 (by omega) (by omega)) ?_
    rintro e w189 ⟨b186, rfl, _, x191, g190⟩
    have s192 := SM.of_grown s98 g190 (.inl (by simp))
    refine ⟨_, rfl, s192, ?_⟩
    refine F.nx ?_
    have ho193 := own_grown ho104 g190 (fun j e1 e2 => by cases e2; exact nb1_5_B e1.symm)
    have rd194 := rd_sepG rd111 g190 sp113
    rcases Bool.eq_false_or_eq_true b186 with q195 | q195
    ·rw [q195]
     have hc196 : w189.cell? ⟨b117, o118 + j, none⟩ = some (.int .i64 x115) := by obtain ⟨_, _, hA9, _, hc9⟩ := Rd.elInt rd194 hx116; rw [hA119] at hA9; cases hA9; exact hc9
     refine W.slq (v := .int .i64 x115) s192 rfl (r_load rfl kk kk (eqS hc196)) kk rfl ?_
     refine F.nx ?_
     refine Fq (.agg #[.int .i64 (d1 + 1 + x52), .int .i64 x67.id, .int .i64 x115, .bool true]) (r_build rfl (vs := [(0, .int .i64 (d1 + 1 + x52)), (1, .int .i64 x67.id), (2, .int .i64 x115), (3, .bool true)]) kk kk) ?_
     refine M.sn (fun b => .slice (some ⟨b, 0, none⟩) 1 1) #[.int .i64 (d1 + 1 + x52), .int .i64 x67.id, .int .i64 x115, .bool true] 40 s192 rfl kk rfl (fun _ => by kernel_rfl) (fun b197 w198 hb199 k200 x201 s202 => ?_)
     refine F.nx ?_
     have lo203 : w.heap.size ≤ b197 := Nat.le_trans ((SM.fr (B := B) c60 s192 (in2 (fun kq e => .inl (by cases e; rfl)) (fun kq e => .inr (World.ownsRow.lt ho59 kq e).1)))).size (Nat.le_of_eq hb199)
     have x191 := Cur.below x191 k200
     have ho208 := own_kept ho193 k200
     refine M.sap (e := 40) (size := 4) (base := w.heap.size) (m := 1) (v := .slice A1_5 n1_5 c1_5) (c := 1) s202 rfl rfl rfl rfl kk kk kk ho208 x201 kk kk (by omega) (by omega) (by have := ((SM.fr (B := B) c60 s202 (in2 (fun kq e => .inl (by cases e; rfl)) (fun kq e => .inr (World.ownsRow.lt ho59 kq e).1)))).size; omega) (.inl (by simp)) (fun g210 cap211 w212 ho213 hg214 hat215 hlt216 s217 => ?_)
     refine F.nx ?_
     have nb218 : Nb B (.slice (some ⟨g210, 0, none⟩) (n1_5 + 1) cap211) := nb_app nb1_5_B (Cur.lt x191) hat215
     have x191 := Cur.grown x191 hg214 nb1_5_B (fun j e => Nat.le_trans hN (World.ownsRow.lt ho208 j e).1)
     have nb219 : Nb b2 (.slice (some ⟨g210, 0, none⟩) (n1_5 + 1) cap211) := nb_app nb1_5_b2 (Nat.lt_of_lt_of_le (blk_lt x6) (s202).size) hat215
     have ho213 := own_snocV (x := (Vv.mk (d1 + 1 + x52) x67.id x115 true)) ho213
     have sp221 := sp_app (v' := .slice (some ⟨g210, 0, none⟩) (n1_5 + 1) cap211) sq1_0_5 rd61 ((s202).size) (hat3 (v := .slice A1_5 n1_5 c1_5) hat215)
     refine Fa (.slice (some ⟨g210, 0, none⟩) (n1_5 + 1) cap211) ?_
     refine F.es ?_
     have x6 := SM.blk s217 x6 (ne2 (fun e9 => ne10 (Option.some.inj e9).symm) nb1_5_b2)
     have c222 := (SM.fr (B := B) c60 s217 (in2 (fun kq e => .inl (by cases e; rfl)) (fun kq e => .inr (World.ownsRow.lt ho59 kq e).1)))
     have rd223 := rd_sepM rd61 s217 (sp2 hsp sq1_0_5)
     refine h14 _ _ ?_
     refine W.region_quiet [(0, false), (1, false), (2, false)] kk ?_
     refine Fv (.int .i64 (j : Int)) ?_
     refine Fq (.int .i64 ((j + 1 : Nat) : Int)) (r_add (m := (j : Int)) (n := 1) (z := ((j + 1 : Nat) : Int)) rfl ek ek (by omega) (by omega)) ?_
     refine Fa (.int .i64 ((j + 1 : Nat) : Int)) ?_
     refine F.es ?_
     exact h11 _ _ _ (by omega : (2 - (j + 1)) < _) ⟨j + 1, d1 + 1 + x52, (us1 ++ [(Vv.mk (d1 + 1 + x52) x67.id x115 true)]), (some ⟨g210, 0, none⟩), (n1_5 + 1), cap211, Kn.of, rfl, (by omega), (⟨by omega, by omega⟩), (by rw [snoc_lenV]; omega), (Cur.mono x191 (by omega)), x6, ho213, nb218, nb219, rd223, sp221, c222⟩
    rw [q195]
    have hc224 : w189.cell? ⟨b117, o118 + j, none⟩ = some (.int .i64 x115) := by obtain ⟨_, _, hA9, _, hc9⟩ := Rd.elInt rd194 hx116; rw [hA119] at hA9; cases hA9; exact hc9
    refine W.slq (v := .int .i64 x115) s192 rfl (r_load rfl kk kk (eqS hc224)) kk rfl ?_
    refine F.nx ?_
    refine Fq (.agg #[.int .i64 (d1 + 1 + x52), .int .i64 x67.id, .int .i64 x115, .bool false]) (r_build rfl (vs := [(0, .int .i64 (d1 + 1 + x52)), (1, .int .i64 x67.id), (2, .int .i64 x115), (3, .bool false)]) kk kk) ?_
    refine M.sn (fun b => .slice (some ⟨b, 0, none⟩) 1 1) #[.int .i64 (d1 + 1 + x52), .int .i64 x67.id, .int .i64 x115, .bool false] 40 s192 rfl kk rfl (fun _ => by kernel_rfl) (fun b225 w226 hb227 k228 x229 s230 => ?_)
    refine F.nx ?_
    have lo231 : w.heap.size ≤ b225 := Nat.le_trans ((SM.fr (B := B) c60 s192 (in2 (fun kq e => .inl (by cases e; rfl)) (fun kq e => .inr (World.ownsRow.lt ho59 kq e).1)))).size (Nat.le_of_eq hb227)
    have x191 := Cur.below x191 k228
    have ho236 := own_kept ho193 k228
    refine M.sap (e := 40) (size := 4) (base := w.heap.size) (m := 1) (v := .slice A1_5 n1_5 c1_5) (c := 1) s230 rfl rfl rfl rfl kk kk kk ho236 x229 kk kk (by omega) (by omega) (by have := ((SM.fr (B := B) c60 s230 (in2 (fun kq e => .inl (by cases e; rfl)) (fun kq e => .inr (World.ownsRow.lt ho59 kq e).1)))).size; omega) (.inl (by simp)) (fun g238 cap239 w240 ho241 hg242 hat243 hlt244 s245 => ?_)
    refine F.nx ?_
    have nb246 : Nb B (.slice (some ⟨g238, 0, none⟩) (n1_5 + 1) cap239) := nb_app nb1_5_B (Cur.lt x191) hat243
    have x191 := Cur.grown x191 hg242 nb1_5_B (fun j e => Nat.le_trans hN (World.ownsRow.lt ho236 j e).1)
    have nb247 : Nb b2 (.slice (some ⟨g238, 0, none⟩) (n1_5 + 1) cap239) := nb_app nb1_5_b2 (Nat.lt_of_lt_of_le (blk_lt x6) (s230).size) hat243
    have ho241 := own_snocV (x := (Vv.mk (d1 + 1 + x52) x67.id x115 false)) ho241
    have sp249 := sp_app (v' := .slice (some ⟨g238, 0, none⟩) (n1_5 + 1) cap239) sq1_0_5 rd61 ((s230).size) (hat3 (v := .slice A1_5 n1_5 c1_5) hat243)
    refine Fa (.slice (some ⟨g238, 0, none⟩) (n1_5 + 1) cap239) ?_
    refine F.es ?_
    have x6 := SM.blk s245 x6 (ne2 (fun e9 => ne10 (Option.some.inj e9).symm) nb1_5_b2)
    have c250 := (SM.fr (B := B) c60 s245 (in2 (fun kq e => .inl (by cases e; rfl)) (fun kq e => .inr (World.ownsRow.lt ho59 kq e).1)))
    have rd251 := rd_sepM rd61 s245 (sp2 hsp sq1_0_5)
    refine h14 _ _ ?_
    refine W.region_quiet [(0, false), (1, false), (2, false)] kk ?_
    refine Fv (.int .i64 (j : Int)) ?_
    refine Fq (.int .i64 ((j + 1 : Nat) : Int)) (r_add (m := (j : Int)) (n := 1) (z := ((j + 1 : Nat) : Int)) rfl ek ek (by omega) (by omega)) ?_
    refine Fa (.int .i64 ((j + 1 : Nat) : Int)) ?_
    refine F.es ?_
    exact h11 _ _ _ (by omega : (2 - (j + 1)) < _) ⟨j + 1, d1 + 1 + x52, (us1 ++ [(Vv.mk (d1 + 1 + x52) x67.id x115 false)]), (some ⟨g238, 0, none⟩), (n1_5 + 1), cap239, Kn.of, rfl, (by omega), (⟨by omega, by omega⟩), (by rw [snoc_lenV]; omega), (Cur.mono x191 (by omega)), x6, ho241, nb246, nb247, rd251, sp249, c250⟩
   refine Fc [.pointer (some ⟨B, 0, none⟩), .int .i64 3] (one_any B N ((k + 12 * i + 6 * j + 2) + 2) 3 _ x66 (by omega) (by omega)) ?_
   rintro e w255 ⟨b252, rfl, _, x257, g256⟩
   have s258 := SM.of_grown s64 g256 (.inl (by simp))
   refine ⟨_, rfl, s258, ?_⟩
   refine F.nx ?_
   have ho259 := own_grown ho65 g256 (fun j e1 e2 => by cases e2; exact nb1_5_B e1.symm)
   rcases Bool.eq_false_or_eq_true b252 with q260 | q260
   ·rw [q260]
    refine M.sn (fun b => .slice (some ⟨b, 0, none⟩) 2 2) #[.int .i64 x67.fr, .int .i64 x67.to] 3 s258 rfl kk rfl (fun _ => by kernel_rfl) (fun b261 w262 hb263 k264 x265 s266 => ?_)
    refine F.nx ?_
    have lo267 : w.heap.size ≤ b261 := Nat.le_trans ((SM.fr (B := B) c60 s258 (in2 (fun kq e => .inl (by cases e; rfl)) (fun kq e => .inr (World.ownsRow.lt ho59 kq e).1)))).size (Nat.le_of_eq hb263)
    have x257 := Cur.below x257 k264
    have ho272 := own_kept ho259 k264
    have ho273 := own_blk (base := w.heap.size) (size := 1) (n := 2) x265 lo267 rfl (by omega)
    replace ho273 : World.ownsRow _ _ _ _ _ _ (intsV [x67.fr, x67.to]) := ho273
    have rd279 := own_rd ho273
    have hl280 := rd_ints_len rd279
    obtain ⟨x283, hx284⟩ := get_of (zs := [x67.fr, x67.to]) (k := j) (by have := hl280; omega)
    obtain ⟨b285, o286, hA287, hb288, hc289⟩ := Rd.elInt rd279 hx284
    refine Fq (.pointer (some ⟨b285, o286 + j, none⟩)) (r_idx1 (n := 2) (c := 2) (k := j) rfl ek hA287 kk kk (by have := hl280; omega)) ?_
    refine W.slq (v := .int .i64 x283) s266 rfl (r_load rfl kk kk (eqS hc289)) kk rfl ?_
    refine F.nx ?_
    refine Fq (.agg #[.int .i64 (d1 + 1 + x52), .int .i64 x67.id, .int .i64 x283, .bool true]) (r_build rfl (vs := [(0, .int .i64 (d1 + 1 + x52)), (1, .int .i64 x67.id), (2, .int .i64 x283), (3, .bool true)]) kk kk) ?_
    refine M.sn (fun b => .slice (some ⟨b, 0, none⟩) 1 1) #[.int .i64 (d1 + 1 + x52), .int .i64 x67.id, .int .i64 x283, .bool true] 40 s266 rfl kk rfl (fun _ => by kernel_rfl) (fun b290 w291 hb292 k293 x294 s295 => ?_)
    refine F.nx ?_
    have lo296 : w.heap.size ≤ b290 := Nat.le_trans ((SM.fr (B := B) c60 s266 (in2 (fun kq e => .inl (by cases e; rfl)) (fun kq e => .inr (World.ownsRow.lt ho59 kq e).1)))).size (Nat.le_of_eq hb292)
    have x257 := Cur.below x257 k293
    have ho301 := own_kept ho272 k293
    refine M.sap (e := 40) (size := 4) (base := w.heap.size) (m := 1) (v := .slice A1_5 n1_5 c1_5) (c := 1) s295 rfl rfl rfl rfl kk kk kk ho301 x294 kk kk (by omega) (by omega) (by have := ((SM.fr (B := B) c60 s295 (in2 (fun kq e => .inl (by cases e; rfl)) (fun kq e => .inr (World.ownsRow.lt ho59 kq e).1)))).size; omega) (.inl (by simp)) (fun g303 cap304 w305 ho306 hg307 hat308 hlt309 s310 => ?_)
    refine F.nx ?_
    have nb311 : Nb B (.slice (some ⟨g303, 0, none⟩) (n1_5 + 1) cap304) := nb_app nb1_5_B (Cur.lt x257) hat308
    have x257 := Cur.grown x257 hg307 nb1_5_B (fun j e => Nat.le_trans hN (World.ownsRow.lt ho301 j e).1)
    have nb312 : Nb b2 (.slice (some ⟨g303, 0, none⟩) (n1_5 + 1) cap304) := nb_app nb1_5_b2 (Nat.lt_of_lt_of_le (blk_lt x6) (s295).size) hat308
    have ho306 := own_snocV (x := (Vv.mk (d1 + 1 + x52) x67.id x283 true)) ho306
    have sp314 := sp_app (v' := .slice (some ⟨g303, 0, none⟩) (n1_5 + 1) cap304) sq1_0_5 rd61 ((s295).size) (hat3 (v := .slice A1_5 n1_5 c1_5) hat308)
    refine Fa (.slice (some ⟨g303, 0, none⟩) (n1_5 + 1) cap304) ?_
    refine F.es ?_
    have x6 := SM.blk s310 x6 (ne2 (fun e9 => ne10 (Option.some.inj e9).symm) nb1_5_b2)
    have c315 := (SM.fr (B := B) c60 s310 (in2 (fun kq e => .inl (by cases e; rfl)) (fun kq e => .inr (World.ownsRow.lt ho59 kq e).1)))
    have rd316 := rd_sepM rd61 s310 (sp2 hsp sq1_0_5)
    refine h14 _ _ ?_
    refine W.region_quiet [(0, false), (1, false), (2, false)] kk ?_
    refine Fv (.int .i64 (j : Int)) ?_
    refine Fq (.int .i64 ((j + 1 : Nat) : Int)) (r_add (m := (j : Int)) (n := 1) (z := ((j + 1 : Nat) : Int)) rfl ek ek (by omega) (by omega)) ?_
    refine Fa (.int .i64 ((j + 1 : Nat) : Int)) ?_
    refine F.es ?_
    exact h11 _ _ _ (by omega : (2 - (j + 1)) < _) ⟨j + 1, d1 + 1 + x52, (us1 ++ [(Vv.mk (d1 + 1 + x52) x67.id x283 true)]), (some ⟨g303, 0, none⟩), (n1_5 + 1), cap304, Kn.of, rfl, (by omega), (⟨by omega, by omega⟩), (by rw [snoc_lenV]; omega), (Cur.mono x257 (by omega)), x6, ho306, nb311, nb312, rd316, sp314, c315⟩
   rw [q260]
   refine M.sn (fun b => .slice (some ⟨b, 0, none⟩) 2 2) #[.int .i64 x67.fr, .int .i64 x67.to] 3 s258 rfl kk rfl (fun _ => by kernel_rfl) (fun b317 w318 hb319 k320 x321 s322 => ?_)
   refine F.nx ?_
   have lo323 : w.heap.size ≤ b317 := Nat.le_trans ((SM.fr (B := B) c60 s258 (in2 (fun kq e => .inl (by cases e; rfl)) (fun kq e => .inr (World.ownsRow.lt ho59 kq e).1)))).size (Nat.le_of_eq hb319)
   have x257 := Cur.below x257 k320
   have ho328 := own_kept ho259 k320
   have ho329 := own_blk (base := w.heap.size) (size := 1) (n := 2) x321 lo323 rfl (by omega)
   replace ho329 : World.ownsRow _ _ _ _ _ _ (intsV [x67.fr, x67.to]) := ho329
   have rd335 := own_rd ho329
   have hl336 := rd_ints_len rd335
   obtain ⟨x339, hx340⟩ := get_of (zs := [x67.fr, x67.to]) (k := j) (by have := hl336; omega)
   obtain ⟨b341, o342, hA343, hb344, hc345⟩ := Rd.elInt rd335 hx340
   refine Fq (.pointer (some ⟨b341, o342 + j, none⟩)) (r_idx1 (n := 2) (c := 2) (k := j) rfl ek hA343 kk kk (by have := hl336; omega)) ?_
   refine W.slq (v := .int .i64 x339) s322 rfl (r_load rfl kk kk (eqS hc345)) kk rfl ?_
   refine F.nx ?_
   refine Fq (.agg #[.int .i64 (d1 + 1 + x52), .int .i64 x67.id, .int .i64 x339, .bool false]) (r_build rfl (vs := [(0, .int .i64 (d1 + 1 + x52)), (1, .int .i64 x67.id), (2, .int .i64 x339), (3, .bool false)]) kk kk) ?_
   refine M.sn (fun b => .slice (some ⟨b, 0, none⟩) 1 1) #[.int .i64 (d1 + 1 + x52), .int .i64 x67.id, .int .i64 x339, .bool false] 40 s322 rfl kk rfl (fun _ => by kernel_rfl) (fun b346 w347 hb348 k349 x350 s351 => ?_)
   refine F.nx ?_
   have lo352 : w.heap.size ≤ b346 := Nat.le_trans ((SM.fr (B := B) c60 s322 (in2 (fun kq e => .inl (by cases e; rfl)) (fun kq e => .inr (World.ownsRow.lt ho59 kq e).1)))).size (Nat.le_of_eq hb348)
   have x257 := Cur.below x257 k349
   have ho357 := own_kept ho328 k349
   refine M.sap (e := 40) (size := 4) (base := w.heap.size) (m := 1) (v := .slice A1_5 n1_5 c1_5) (c := 1) s351 rfl rfl rfl rfl kk kk kk ho357 x350 kk kk (by omega) (by omega) (by have := ((SM.fr (B := B) c60 s351 (in2 (fun kq e => .inl (by cases e; rfl)) (fun kq e => .inr (World.ownsRow.lt ho59 kq e).1)))).size; omega) (.inl (by simp)) (fun g359 cap360 w361 ho362 hg363 hat364 hlt365 s366 => ?_)
   refine F.nx ?_
   have nb367 : Nb B (.slice (some ⟨g359, 0, none⟩) (n1_5 + 1) cap360) := nb_app nb1_5_B (Cur.lt x257) hat364
   have x257 := Cur.grown x257 hg363 nb1_5_B (fun j e => Nat.le_trans hN (World.ownsRow.lt ho357 j e).1)
   have nb368 : Nb b2 (.slice (some ⟨g359, 0, none⟩) (n1_5 + 1) cap360) := nb_app nb1_5_b2 (Nat.lt_of_lt_of_le (blk_lt x6) (s351).size) hat364
   have ho362 := own_snocV (x := (Vv.mk (d1 + 1 + x52) x67.id x339 false)) ho362
   have sp370 := sp_app (v' := .slice (some ⟨g359, 0, none⟩) (n1_5 + 1) cap360) sq1_0_5 rd61 ((s351).size) (hat3 (v := .slice A1_5 n1_5 c1_5) hat364)
   refine Fa (.slice (some ⟨g359, 0, none⟩) (n1_5 + 1) cap360) ?_
   refine F.es ?_
   have x6 := SM.blk s366 x6 (ne2 (fun e9 => ne10 (Option.some.inj e9).symm) nb1_5_b2)
   have c371 := (SM.fr (B := B) c60 s366 (in2 (fun kq e => .inl (by cases e; rfl)) (fun kq e => .inr (World.ownsRow.lt ho59 kq e).1)))
   have rd372 := rd_sepM rd61 s366 (sp2 hsp sq1_0_5)
   refine h14 _ _ ?_
   refine W.region_quiet [(0, false), (1, false), (2, false)] kk ?_
   refine Fv (.int .i64 (j : Int)) ?_
   refine Fq (.int .i64 ((j + 1 : Nat) : Int)) (r_add (m := (j : Int)) (n := 1) (z := ((j + 1 : Nat) : Int)) rfl ek ek (by omega) (by omega)) ?_
   refine Fa (.int .i64 ((j + 1 : Nat) : Int)) ?_
   refine F.es ?_
   exact h11 _ _ _ (by omega : (2 - (j + 1)) < _) ⟨j + 1, d1 + 1 + x52, (us1 ++ [(Vv.mk (d1 + 1 + x52) x67.id x339 false)]), (some ⟨g359, 0, none⟩), (n1_5 + 1), cap360, Kn.of, rfl, (by omega), (⟨by omega, by omega⟩), (by rw [snoc_lenV]; omega), (Cur.mono x257 (by omega)), x6, ho362, nb367, nb368, rd372, sp370, c371⟩
  refine Fq (.bool false) (r_lss (m := (j : Int)) (n := 2) rfl ek ek (decide_eq_false q33)) ?_
  refine F.es ?_
  refine h13 _ _ ?_
  refine wp_cond_false ek ?_
  refine wp_exit ?_
  refine h9 _ _ ?_
  refine W.region_quiet [(0, false), (1, false), (2, false)] kk ?_
  refine Fv (.int .i64 (i : Int)) ?_
  refine Fq (.int .i64 ((i + 1 : Nat) : Int)) (r_add (m := (i : Int)) (n := 1) (z := ((i + 1 : Nat) : Int)) rfl ek ek (by omega) (by omega)) ?_
  refine Fa (.int .i64 ((i + 1 : Nat) : Int)) ?_
  refine F.es ?_
  exact h6 _ _ _ (by omega : (n - (i + 1)) < _) ⟨i + 1, d1, us1, A1_5, n1_5, c1_5, Kn.of, rfl, (by omega), (⟨by omega, by omega⟩), (by omega), (Cur.mono hc (by omega)), x6, ho1_5, nb1_5_B, nb1_5_b2, kl1_0, sq1_0_5, c32⟩
 refine Fq (.bool false) (r_lss (m := (i : Int)) (n := (n : Int)) rfl ek ek (decide_eq_false q31)) ?_
 refine F.es ?_
 refine h8 _ _ ?_
 refine wp_cond_false ek ?_
 refine wp_exit ?_
 refine h4 _ _ ?_
 refine wk fun K18 h18 => ?_
 refine wk fun K19 h19 => ?_
 refine W.region_plain (row := (some B)) [(0, false), (1, true)] kk ?_
 have s373 := SG.self wl0 (some B)
 refine Fv (.pointer (some ⟨B, 0, none⟩)) ?_
 refine Fc [.pointer (some ⟨B, 0, none⟩), .int .i64 24] (pick_any B N (k + 12 * i) 24 _ hc (by omega) (by omega)) ?_
 rintro e w377 ⟨x374, rfl, hx375, x379, g378⟩
 have s380 := SG.of_grown s373 g378 (.inl rfl)
 refine ⟨_, rfl, s380, ?_⟩
 refine F.nx ?_
 have ho381 := own_grown ho0_5 g378 (fun j e1 e2 => by cases e2; exact nb0_5_B e1.symm)
 refine F.es ?_
 have x6 := SG.blk s380 x6 (fun e9 => ne10 (Option.some.inj e9).symm)
 have c382 := (SG.fr (B := B) c30 s380 (fun kq e => .inl (by cases e; rfl)))
 have rd383 := rd_sep kl0_0 s380 hsp
 refine h19 _ _ ?_
 refine wp_block ?_
 refine wk fun K20 h20 => ?_
 refine W.region_quiet [(0, false), (1, false)] kk ?_
 by_cases q384 : (x374 : Int) = (0 : Int)
 ·refine Fq (.bool true) (r_eql (m := x374) (n := 0) rfl ek ek (decide_eq_true q384)) ?_
  refine Fa (.bool true) ?_
  refine F.es ?_
  refine h20 _ _ ?_
  refine wp_cond_true ek ?_
  refine M.region_sch (row := [(some B), (Value.ownBlock (.slice A0_5 n0_5 c0_5))]) (Sch.of [(0, false), (1, false), (4, false), (5, false), (7, false), (8, false), (2, true), (3, true), (6, true), (9, true), (10, false), (11, true), (12, true), (13, false)]) kk kk (fun _ d _ _ _ h => by cases d <;> exact h) kk (fun w385 e386 s387 => ?_)
  have ho388 := own_heap ho381 e386
  have x389 := Cur.heap x379 e386
  refine Fv (.slice A0_5 n0_5 c0_5) ?_
  refine Fv (.pointer (some ⟨B, 0, none⟩)) ?_
  refine Fv (.pointer (some ⟨B, 0, none⟩)) ?_
  refine Fq (.agg #[.int .i64 m, .slice A n c]) (r_load2 rfl ek kk kk (smS (blk_cell (j := 0) x6 kk) (ne2 (fun e9 => ne10 (Option.some.inj e9).symm) nb0_5_b2)) (smS (blk_cell (j := 1) x6 kk) (ne2 (fun e9 => ne10 (Option.some.inj e9).symm) nb0_5_b2))) ?_
  refine Fv (.pointer (some ⟨B, 0, none⟩)) ?_
  refine Fq (.agg #[.int .i64 m, .slice A n c]) (r_load2 rfl ek kk kk (smS (blk_cell (j := 0) x6 kk) (ne2 (fun e9 => ne10 (Option.some.inj e9).symm) nb0_5_b2)) (smS (blk_cell (j := 1) x6 kk) (ne2 (fun e9 => ne10 (Option.some.inj e9).symm) nb0_5_b2))) ?_
  refine M.sn (fun b => .slice (some ⟨b, 0, none⟩) 3 3) #[.int .i64 99, .int .i64 100, .int .i64 1] 3 s387 rfl kk rfl (fun _ => by kernel_rfl) (fun b390 w391 hb392 k393 x394 s395 => ?_)
  refine F.nx ?_
  have lo396 : w.heap.size ≤ b390 := Nat.le_trans ((SM.fr (B := B) c382 s387 (in2 (fun kq e => .inl (by cases e; rfl)) (fun kq e => .inr (World.ownsRow.lt ho381 kq e).1)))).size (Nat.le_of_eq hb392)
  have ne398 : B ≠ b390 := Nat.ne_of_lt (Nat.lt_of_lt_of_eq (Cur.lt x389) hb392)
  have x389 := Cur.below x389 k393
  have ho401 := own_kept ho388 k393
  refine Fc [.pointer (some ⟨B, 0, none⟩), .slice (some ⟨b390, 0, none⟩) 3 3] (among_any B N (k + 12 * i + 2) (some ⟨b390, 0, none⟩) 3 3 [99, 100, 1] _ x389 (by omega) (rd_blk x394 rfl rfl) (sp_ne (by have := ne398; omega)) (by omega)) ?_
  rintro e w406 ⟨x402, rfl, hx403, x408, g407⟩
  have s409 := SM.of_grown s395 g407 (.inl (by simp))
  refine ⟨_, rfl, s409, ?_⟩
  refine F.nx ?_
  have ho410 := own_grown ho401 g407 (fun j e1 e2 => by cases e2; exact nb0_5_B e1.symm)
  have hb404 := bnd_of (1) 100 hx403 (by decide)
  refine Fc [.pointer (some ⟨B, 0, none⟩), .agg #[.int .i64 m, .slice A n c]] (pipeOf_any B N ((k + 12 * i + 2) + 2) m A n c ps _ x408 (by omega) (rd_sepM rd383 s409 (sp2 hsp sq0_0_5)) hsp (by omega) (by omega)) ?_
  rintro e w414 ⟨x411, rfl, hx412, x416, g415⟩
  have s417 := SM.of_grown s409 g415 (.inl (by simp))
  refine ⟨_, rfl, s417, ?_⟩
  refine F.nx ?_
  have ho418 := own_grown ho410 g415 (fun j e1 e2 => by cases e2; exact nb0_5_B e1.symm)
  refine Fc [.pointer (some ⟨B, 0, none⟩), .agg #[.int .i64 m, .slice A n c]] (nodeOf_any B N (((k + 12 * i + 2) + 2) + 4) m A n c _ x416 (by omega) (by omega)) ?_
  rintro e w422 ⟨x419, rfl, hx420, x424, g423⟩
  have s425 := SM.of_grown s417 g423 (.inl (by simp))
  refine ⟨_, rfl, s425, ?_⟩
  refine F.nx ?_
  have ho426 := own_grown ho418 g423 (fun j e1 e2 => by cases e2; exact nb0_5_B e1.symm)
  refine Fq (.agg #[.int .i64 x402, .int .i64 x411, .int .i64 x419, .bool false]) (r_build rfl (vs := [(0, .int .i64 x402), (1, .int .i64 x411), (2, .int .i64 x419)]) kk kk) ?_
  refine M.sn (fun b => .slice (some ⟨b, 0, none⟩) 1 1) #[.int .i64 x402, .int .i64 x411, .int .i64 x419, .bool false] 40 s425 rfl kk rfl (fun _ => by kernel_rfl) (fun b427 w428 hb429 k430 x431 s432 => ?_)
  refine F.nx ?_
  have lo433 : w.heap.size ≤ b427 := Nat.le_trans ((SM.fr (B := B) c382 s425 (in2 (fun kq e => .inl (by cases e; rfl)) (fun kq e => .inr (World.ownsRow.lt ho381 kq e).1)))).size (Nat.le_of_eq hb429)
  have x424 := Cur.below x424 k430
  have ho439 := own_kept ho426 k430
  refine M.sap (e := 40) (size := 4) (base := w.heap.size) (m := 1) (v := .slice A0_5 n0_5 c0_5) (c := 1) s432 rfl rfl rfl rfl kk kk kk ho439 x431 kk kk (by omega) (by omega) (by have := ((SM.fr (B := B) c382 s432 (in2 (fun kq e => .inl (by cases e; rfl)) (fun kq e => .inr (World.ownsRow.lt ho381 kq e).1)))).size; omega) (.inl (by simp)) (fun g440 cap441 w442 ho443 hg444 hat445 hlt446 s447 => ?_)
  refine F.nx ?_
  have x424 := Cur.grown x424 hg444 nb0_5_B (fun j e => Nat.le_trans hN (World.ownsRow.lt ho439 j e).1)
  have ho443 := own_snocV (x := (Vv.mk x402 x411 x419 false)) ho443
  refine Fa (.slice (some ⟨g440, 0, none⟩) (n0_5 + 1) cap441) ?_
  refine F.es ?_
  have c453 := (SM.fr (B := B) c382 s447 (in2 (fun kq e => .inl (by cases e; rfl)) (fun kq e => .inr (World.ownsRow.lt ho381 kq e).1)))
  refine h18 _ _ ?_
  refine wk fun K21 h21 => ?_
  refine W.region_quiet [(0, false), (1, false)] kk ?_
  refine Fv (.slice (some ⟨g440, 0, none⟩) (n0_5 + 1) cap441) ?_
  refine Fa (.slice (some ⟨g440, 0, none⟩) (n0_5 + 1) cap441) ?_
  refine F.es ?_
  refine h21 _ _ ?_
  refine wp_ret ?_
  try simp only [Exit.then]
  refine ret1 (v := .slice (some ⟨g440, 0, none⟩) (n0_5 + 1) cap441) rfl kk ?_
  exact ⟨_, _, _, (us0 ++ [(Vv.mk x402 x411 x419 false)]), rfl, ⟨ho443, by rw [snoc_lenV]; omega⟩, Cur.mono x424 (by omega), c453⟩
 refine Fq (.bool false) (r_eql (m := x374) (n := 0) rfl ek ek (decide_eq_false q384)) ?_
 refine Fa (.bool false) ?_
 refine F.es ?_
 refine h20 _ _ ?_
 refine wp_cond_false ek ?_
 refine wk fun K22 h22 => ?_
 refine W.region_quiet [(0, false), (1, false)] kk ?_
 by_cases q455 : (x374 : Int) = (1 : Int)
 ·refine Fq (.bool true) (r_eql (m := x374) (n := 1) rfl ek ek (decide_eq_true q455)) ?_
  refine Fa (.bool true) ?_
  refine F.es ?_
  refine h22 _ _ ?_
  refine wp_cond_true ek ?_
  refine wk fun K23 h23 => ?_
  refine W.region_quiet [(0, false), (1, false), (2, false)] kk ?_
  refine Fv (.slice A0_5 n0_5 c0_5) ?_
  refine Fq (.int .i64 (n0_5 : Int)) (r_len (A := A0_5) (n := n0_5) (c := c0_5) rfl ek kk) ?_
  by_cases q456 : ((n0_5 : Int) : Int) > (0 : Int)
  ·refine Fq (.bool true) (r_gtr (m := (n0_5 : Int)) (n := 0) rfl ek ek (decide_eq_true q456)) ?_
   refine F.es ?_
   refine h23 _ _ ?_
   refine wp_cond_true ek ?_
   refine wk fun K24 h24 => ?_
   refine W.region_plain (row := none) [(0, false), (1, false), (2, false), (3, true), (4, true)] kk ?_
   have s457 := SG.self w377 none
   refine Fv (.slice A0_5 n0_5 c0_5) ?_
   obtain ⟨g458, rfl, _, _⟩ := own_addr ho381 (by omega)
   obtain ⟨x459, hx460⟩ := get_of (zs := us0) (k := 0) (by have h9 := rd_valves_len (own_rd ho381); omega)
   refine Fq (.pointer (some ⟨g458, 0 + 0 * 4, none⟩)) (r_idx (n := n0_5) (c := c0_5) (k := 0) (size := 4) rfl ek rfl kk kk (by omega)) ?_
   refine Fq (.agg #[.int .i64 x459.id, .int .i64 x459.pipe, .int .i64 x459.node, .bool x459.shut]) (r_load4 rfl ek kk kk (sgS ((own_atV ho381 hx460).1) (by simp)) (sgS ((own_atV ho381 hx460).2.1) (by simp)) (sgS ((own_atV ho381 hx460).2.2.1) (by simp)) (sgS ((own_atV ho381 hx460).2.2.2) (by simp))) ?_
   refine W.sn (fun b => .pointer (some ⟨b, 0, none⟩)) #[.int .i64 0, .int .i64 0, .int .i64 0, .bool false] 40 s457 rfl kk rfl (fun _ => by kernel_rfl) (fun b461 w462 hb463 k464 x465 s466 => ?_)
   refine F.nx ?_
   have lo467 : w.heap.size ≤ b461 := Nat.le_trans ((SG.fr (B := B) c382 s457 (fun kq e => by cases e))).size (Nat.le_of_eq hb463)
   have ne469 : B ≠ b461 := Nat.ne_of_lt (Nat.lt_of_lt_of_eq (Nat.lt_of_lt_of_le (Cur.lt x379) (s457).size) hb463)
   have nb471 : Nb b461 (.slice (some ⟨g458, 0, none⟩) n0_5 c0_5) := nb_hi ho381 (Nat.le_of_eq hb463)
   have ho472 := own_kept ho381 k464
   refine W.ss (v := .agg #[.int .i64 x459.id, .int .i64 x459.pipe, .int .i64 x459.node, .bool x459.shut]) (j := 0) (news := [.int .i64 x459.id, .int .i64 x459.pipe, .int .i64 x459.node, .bool x459.shut]) (cs' := #[.int .i64 x459.id, .int .i64 x459.pipe, .int .i64 x459.node, .bool x459.shut]) s466 rfl kk rfl rfl kk kk x465 kk kk (by simp) kk kk (.inr (Nat.le_trans (s457).size (Nat.le_of_eq hb463))) (fun w473 g474 x475 s476 => ?_)
   have ho477 := own_grown ho472 g474 (fun j e1 e2 => by cases e2; exact nb471 e1.symm)
   refine F.es ?_
   have x379 := Cur.below x379 (SG.below s476)
   have c478 := (SG.fr (B := B) c382 s476 (fun kq e => by cases e))
   refine h24 _ _ ?_
   refine wk fun K25 h25 => ?_
   refine W.region_plain (row := (some b461)) [(0, false), (1, true)] kk ?_
   have s480 := SG.self w473 (some b461)
   refine Fq (.pointer (some ⟨b461, 0, none⟩)) (r_field0 rfl ek kk) ?_
   refine W.ss (v := .int .i64 98) (j := 0) (news := [.int .i64 98]) (cs' := #[.int .i64 98, .int .i64 x459.pipe, .int .i64 x459.node, .bool x459.shut]) s480 rfl kk rfl rfl kk kk x475 kk kk (by simp) kk kk (.inl rfl) (fun w481 g482 x483 s484 => ?_)
   have ho485 := own_grown ho477 g482 (fun j e1 e2 => by cases e2; exact nb471 e1.symm)
   refine F.es ?_
   have x379 := Cur.grown x379 s484 (fun e9 => ne469 (Option.some.inj e9)) (fun j e => by cases e; exact Nat.le_trans hN lo467)
   have c486 := (SG.fr (B := B) c478 s484 (fun kq e => .inr (by cases e; exact lo467)))
   refine h25 _ _ ?_
   refine W.region_plain (row := (Value.ownBlock (.slice (some ⟨g458, 0, none⟩) n0_5 c0_5))) [(0, false), (1, false), (2, true), (3, true), (4, false)] kk ?_
   have s488 := SG.self w481 (Value.ownBlock (.slice (some ⟨g458, 0, none⟩) n0_5 c0_5))
   refine Fv (.slice (some ⟨g458, 0, none⟩) n0_5 c0_5) ?_
   refine Fq (.agg #[.int .i64 98, .int .i64 x459.pipe, .int .i64 x459.node, .bool x459.shut]) (r_load4 rfl ek kk kk (sgS (blk_cell (j := 0) x483 kk) nb471) (sgS (blk_cell (j := 1) x483 kk) nb471) (sgS (blk_cell (j := 2) x483 kk) nb471) (sgS (blk_cell (j := 3) x483 kk) nb471)) ?_
   refine W.sn (fun b => .slice (some ⟨b, 0, none⟩) 1 1) #[.int .i64 98, .int .i64 x459.pipe, .int .i64 x459.node, .bool x459.shut] 40 s488 rfl kk rfl (fun _ => by kernel_rfl) (fun b489 w490 hb491 k492 x493 s494 => ?_)
   refine F.nx ?_
   have lo495 : w.heap.size ≤ b489 := Nat.le_trans ((SG.fr (B := B) c486 s488 (fun kq e => .inr (World.ownsRow.lt ho485 kq e).1))).size (Nat.le_of_eq hb491)
   have ho501 := own_kept ho485 k492
   refine W.sap (e := 40) (size := 4) (base := w.heap.size) (m := 1) (v := .slice (some ⟨g458, 0, none⟩) n0_5 c0_5) (c := 1) s494 rfl rfl rfl rfl kk kk kk ho501 x493 kk kk (by omega) (by omega) (by have := ((SG.fr (B := B) c486 s494 (fun kq e => .inr (World.ownsRow.lt ho485 kq e).1))).size; omega) (.inl rfl) (fun g502 cap503 w504 ho505 hg506 hat507 hlt508 s509 => ?_)
   refine F.nx ?_
   have ho505 := own_snocV (x := (Vv.mk 98 x459.pipe x459.node x459.shut)) ho505
   refine Fa (.slice (some ⟨g502, 0, none⟩) (n0_5 + 1) cap503) ?_
   refine F.es ?_
   have x379 := Cur.grown x379 s509 nb0_5_B (fun j e => Nat.le_trans hN (World.ownsRow.lt ho485 j e).1)
   have c515 := (SG.fr (B := B) c486 s509 (fun kq e => .inr (World.ownsRow.lt ho485 kq e).1))
   refine h18 _ _ ?_
   refine wk fun K26 h26 => ?_
   refine W.region_quiet [(0, false), (1, false)] kk ?_
   refine Fv (.slice (some ⟨g502, 0, none⟩) (n0_5 + 1) cap503) ?_
   refine Fa (.slice (some ⟨g502, 0, none⟩) (n0_5 + 1) cap503) ?_
   refine F.es ?_
   refine h26 _ _ ?_
   refine wp_ret ?_
   try simp only [Exit.then]
   refine ret1 (v := .slice (some ⟨g502, 0, none⟩) (n0_5 + 1) cap503) rfl kk ?_
   exact ⟨_, _, _, (us0 ++ [(Vv.mk 98 x459.pipe x459.node x459.shut)]), rfl, ⟨ho505, by rw [snoc_lenV]; omega⟩, Cur.mono x379 (by omega), c515⟩
  refine Fq (.bool false) (r_gtr (m := (n0_5 : Int)) (n := 0) rfl ek ek (decide_eq_false q456)) ?_
  refine F.es ?_
  refine h23 _ _ ?_
  refine wp_cond_false ek ?_
  refine wp_skip ?_
  refine h18 _ _ ?_
  refine wk fun K27 h27 => ?_
  refine W.region_quiet [(0, false), (1, false)] kk ?_
  refine Fv (.slice A0_5 n0_5 c0_5) ?_
  refine Fa (.slice A0_5 n0_5 c0_5) ?_
  refine F.es ?_
  refine h27 _ _ ?_
  refine wp_ret ?_
  try simp only [Exit.then]
  refine ret1 (v := .slice A0_5 n0_5 c0_5) rfl kk ?_
  exact ⟨_, _, _, us0, rfl, ⟨ho381, by omega⟩, Cur.mono x379 (by omega), c382⟩
 refine Fq (.bool false) (r_eql (m := x374) (n := 1) rfl ek ek (decide_eq_false q455)) ?_
 refine Fa (.bool false) ?_
 refine F.es ?_
 refine h22 _ _ ?_
 refine wp_cond_false ek ?_
 refine wp_skip ?_
 refine h18 _ _ ?_
 refine wk fun K28 h28 => ?_
 refine W.region_quiet [(0, false), (1, false)] kk ?_
 refine Fv (.slice A0_5 n0_5 c0_5) ?_
 refine Fa (.slice A0_5 n0_5 c0_5) ?_
 refine F.es ?_
 refine h28 _ _ ?_
 refine wp_ret ?_
 try simp only [Exit.then]
 refine ret1 (v := .slice A0_5 n0_5 c0_5) rfl kk ?_
 exact ⟨_, _, _, us0, rfl, ⟨ho381, by omega⟩, Cur.mono x379 (by omega), c382⟩
set_option maxRecDepth 100000 in
set_option maxHeartbeats 8000000 in
theorem valveOf_any (B N k : Nat) (A : Option Addr) (n c : Nat) (vs : List Vv) (w : World) (hc : Cur w B N k) (hk : k ≤ 900000000000) (ha : Rd w 4 A n (valvesV vs)) (hsp : Sp A n (some B)) (hn : n ≤ 100) :
    Calls Try.prog 91 #[.pointer (some ⟨B, 0, none⟩), .slice A n c] w fun e w' => ∃ x, e = .returned (.int .i64 x) ∧ (True) ∧ Cur w' B N (k + 4) ∧ w.grownBy w' (some B) := by
 have hN := Cur.hN hc
 have hlvl := rd_valves_len ha
 go_enter Try.func91, Try.ntmps91
 refine F.begin 22 [(0, .pointer (some ⟨B, 0, none⟩)), (1, .slice A n c)] (fun U0 => ?_)
 refine wk fun K1 h1 => ?_
 refine W.region_quiet [(0, false)] kk ?_
 refine Fa (.int .i64 0) ?_
 refine F.es ?_
 refine h1 _ _ ?_
 refine wk fun K2 h2 => ?_
 refine wk fun K3 h3 => ?_
 refine W.region_plain (row := (some B)) [(0, false), (1, false), (2, false), (3, false), (4, false), (5, true), (6, false)] kk ?_
 have s1 := SG.self w (some B)
 refine Fv (.slice A n c) ?_
 refine Fq (.int .i64 (n : Int)) (r_len (A := A) (n := n) (c := c) rfl ek kk) ?_
 by_cases q2 : ((n : Int) : Int) = (0 : Int)
 ·refine Fq (.bool true) (r_eql (m := (n : Int)) (n := 0) rfl ek ek (decide_eq_true q2)) ?_
  refine Fv (.bool true) ?_
  refine Fs s1 ?_
  refine Fs s1 ?_
  refine Fq (.bool true) (r_pick (b := true) rfl ek ek) ?_
  refine F.es ?_
  have c3 := (SG.fr (B := B) (World.grownBy.refl _ _) s1 (fun kq e => .inl (by cases e; rfl)))
  refine h3 _ _ ?_
  refine wp_cond_true ek ?_
  refine wk fun K4 h4 => ?_
  refine W.region_plain (row := (some B)) [(0, false), (1, true), (2, false)] kk ?_
  have s5 := SG.self w (some B)
  refine Fv (.pointer (some ⟨B, 0, none⟩)) ?_
  refine Fc [.pointer (some ⟨B, 0, none⟩), .int .i64 20] (pick_any B N k 20 _ hc (by omega) (by omega)) ?_
  rintro e w9 ⟨x6, rfl, hx7, x11, g10⟩
  have s12 := SG.of_grown s5 g10 (.inl rfl)
  refine ⟨_, rfl, s12, ?_⟩
  refine F.nx ?_
  refine Fa (.int .i64 x6) ?_
  refine F.es ?_
  have c13 := (SG.fr (B := B) c3 s12 (fun kq e => .inl (by cases e; rfl)))
  refine h4 _ _ ?_
  refine wp_ret ?_
  try simp only [Exit.then]
  refine ret1 (v := .int .i64 x6) rfl kk ?_
  exact ⟨_, rfl, trivial, Cur.mono x11 (by omega), c13⟩
 refine Fq (.bool false) (r_eql (m := (n : Int)) (n := 0) rfl ek ek (decide_eq_false q2)) ?_
 refine Fv (.bool false) ?_
 refine Fv (.pointer (some ⟨B, 0, none⟩)) ?_
 refine Fc [.pointer (some ⟨B, 0, none⟩), .int .i64 10] (one_any B N k 10 _ hc (by omega) (by omega)) ?_
 rintro e w18 ⟨b15, rfl, _, x20, g19⟩
 have s21 := SG.of_grown s1 g19 (.inl rfl)
 refine ⟨_, rfl, s21, ?_⟩
 refine F.nx ?_
 rcases Bool.eq_false_or_eq_true b15 with q22 | q22
 ·rw [q22]
  refine Fq (.bool true) (r_pick (b := false) rfl ek ek) ?_
  refine F.es ?_
  have c23 := (SG.fr (B := B) (World.grownBy.refl _ _) s21 (fun kq e => .inl (by cases e; rfl)))
  refine h3 _ _ ?_
  refine wp_cond_true ek ?_
  refine wk fun K5 h5 => ?_
  refine W.region_plain (row := (some B)) [(0, false), (1, true), (2, false)] kk ?_
  have s25 := SG.self w18 (some B)
  refine Fv (.pointer (some ⟨B, 0, none⟩)) ?_
  refine Fc [.pointer (some ⟨B, 0, none⟩), .int .i64 20] (pick_any B N (k + 2) 20 _ x20 (by omega) (by omega)) ?_
  rintro e w29 ⟨x26, rfl, hx27, x31, g30⟩
  have s32 := SG.of_grown s25 g30 (.inl rfl)
  refine ⟨_, rfl, s32, ?_⟩
  refine F.nx ?_
  refine Fa (.int .i64 x26) ?_
  refine F.es ?_
  have c33 := (SG.fr (B := B) c23 s32 (fun kq e => .inl (by cases e; rfl)))
  refine h5 _ _ ?_
  refine wp_ret ?_
  try simp only [Exit.then]
  refine ret1 (v := .int .i64 x26) rfl kk ?_
  exact ⟨_, rfl, trivial, Cur.mono x31 (by omega), c33⟩
 rw [q22]
 refine Fq (.bool false) (r_pick (b := false) rfl ek ek) ?_
 refine F.es ?_
 have c35 := (SG.fr (B := B) (World.grownBy.refl _ _) s21 (fun kq e => .inl (by cases e; rfl)))
 have rd36 := rd_sep ha s21 hsp
 refine h3 _ _ ?_
 refine wp_cond_false ek ?_
 refine wp_skip ?_
 refine h2 _ _ ?_
 refine wk fun K6 h6 => ?_
 refine W.region_plain (row := (some B)) [(0, false), (1, false), (2, false), (3, false), (4, true), (5, false), (6, false), (7, false), (8, false)] kk ?_
 have s37 := SG.self w18 (some B)
 refine Fv (.slice A n c) ?_
 refine Fv (.pointer (some ⟨B, 0, none⟩)) ?_
 refine Fv (.slice A n c) ?_
 refine Fq (.int .i64 (n : Int)) (r_len (A := A) (n := n) (c := c) rfl ek kk) ?_
 refine Fc [.pointer (some ⟨B, 0, none⟩), .int .i64 (n : Int)] (pick_any B N (k + 2) (n : Int) _ x20 (by omega) (by omega)) ?_
 rintro e w41 ⟨x38, rfl, hx39, x43, g42⟩
 have s44 := SG.of_grown s37 g42 (.inl rfl)
 refine ⟨_, rfl, s44, ?_⟩
 refine F.nx ?_
 obtain ⟨x45, hx46⟩ := get_of (zs := vs) (k := x38.toNat) (by have := hlvl; omega)
 obtain ⟨b47, o48, hA49, hb50, hc51, hc52, hc53, hc54⟩ := Rd.elValve rd36 hx46
 refine Fq (.pointer (some ⟨b47, o48 + x38.toNat * 4, none⟩)) (r_idx (n := n) (c := c) (k := x38.toNat) rfl ek hA49 (evk (z := x38) kk (by omega)) kk (by have := hlvl; omega)) ?_
 refine Fq (.pointer (some ⟨b47, o48 + x38.toNat * 4, none⟩)) (r_field0 rfl ek kk) ?_
 refine Fl (.int .i64 x45.id) (sgS hc51 (hsp (by omega) _ _ hA49)) ?_
 refine Fa (.int .i64 x45.id) ?_
 refine F.es ?_
 have c55 := (SG.fr (B := B) c35 s44 (fun kq e => .inl (by cases e; rfl)))
 refine h6 _ _ ?_
 refine wp_ret ?_
 try simp only [Exit.then]
 refine ret1 (v := .int .i64 x45.id) rfl kk ?_
 exact ⟨_, rfl, trivial, Cur.mono x43 (by omega), c55⟩
set_option maxRecDepth 100000 in
set_option maxHeartbeats 8000000 in
theorem DrawIsValidValves_any (A : Option Addr) (n c : Nat) (zs : List Int) (w : World) (hcode : Rd w 1 A n (bytesV zs)) (hz : ∀ z ∈ zs, 0 ≤ z ∧ z < 256) (hn : n ≤ 4611686018427387904) :
    Calls Try.prog 96 #[.slice A n c] w fun e w' => ∃ (m : Int) (A1 : Option Addr) (n1 c1 : Nat) (ps : List Pp) (A2 : Option Addr) (n2 c2 : Nat) (vs : List Vv), e = .returned (.tuple #[.agg #[.int .i64 m, .slice A1 n1 c1], .slice A2 n2 c2]) ∧ ((Rd w' 4 A1 n1 (pipesV ps) ∧ Fm A1 n1 c1 ∧ freshA w.heap.size A1 n1) ∧ smD 30 m ps) ∧ ((Rd w' 4 A2 n2 (valvesV vs) ∧ Fm A2 n2 c2 ∧ freshA w.heap.size A2 n2) ∧ vs.length ≤ 11) ∧ Below w.heap.size w w' := by
 have hl := rd_bytes_len hcode
 go_enter Try.func96, Try.ntmps96
 refine F.begin 15 [(0, .slice A n c)] (fun U0 => ?_)
 refine wk fun K1 h1 => ?_
 refine W.region_plain (row := none) [(0, true), (1, false)] kk ?_
 have s1 := SG.self w none
 refine W.sn (fun b => .pointer (some ⟨b, 0, none⟩)) #[.int .i64 0, .slice none 0 0] 26 s1 rfl kk rfl (fun _ => by kernel_rfl) (fun b2 w3 hb4 k5 x6 s7 => ?_)
 refine F.nx ?_
 have lo8 : w.heap.size ≤ b2 := Nat.le_trans ((SG.belowR (Below.refl _ _) s1 (fun kq e => by cases e))).size (Nat.le_of_eq hb4)
 refine Fa (.slice none 0 0) ?_
 refine F.es ?_
 have c9 := (SG.belowR (Below.refl _ _) s7 (fun kq e => by cases e))
 refine h1 _ _ ?_
 refine wk fun K2 h2 => ?_
 refine W.region_plain (row := none) [(0, false), (1, false), (2, true), (3, false)] kk ?_
 have s10 := SG.self w3 none
 refine Fv (.slice A n c) ?_
 refine Fq (.agg #[.slice A n c, .int .i64 0, .int .u64 0]) (r_build rfl (vs := [(0, .slice A n c)]) kk kk) ?_
 refine W.sn (fun b => .pointer (some ⟨b, 0, none⟩)) #[.slice A n c, .int .i64 0, .int .u64 0] 86 s10 rfl kk rfl (fun _ => by kernel_rfl) (fun b11 w12 hb13 k14 x15 s16 => ?_)
 refine F.nx ?_
 have lo17 : w.heap.size ≤ b11 := Nat.le_trans ((SG.belowR c9 s10 (fun kq e => by cases e))).size (Nat.le_of_eq hb13)
 have ne18 : b2 ≠ b11 := Nat.ne_of_lt (Nat.lt_of_lt_of_eq (Nat.lt_of_lt_of_le (blk_lt x6) (s10).size) hb13)
 have x19 := Cur.new x15 hcode hz hn ((SG.belowR c9 s16 (fun kq e => by cases e))) lo17
 have hN : w.heap.size ≤ w.heap.size := Nat.le_refl _
 refine Fa (.pointer (some ⟨b11, 0, none⟩)) ?_
 refine F.es ?_
 have x6 := SG.blk s16 x6 (Option.some_ne_none _)
 have c20 := (SG.belowR c9 s16 (fun kq e => by cases e))
 refine h2 _ _ ?_
 refine wk fun K3 h3 => ?_
 refine W.region_plain (row := (some b11)) [(0, false), (1, true), (2, true), (3, true)] kk ?_
 have s21 := SG.self w12 (some b11)
 refine Fv (.pointer (some ⟨b11, 0, none⟩)) ?_
 have z29 := ((SG.belowR c20 s21 (fun kq e => by cases e; exact lo17))).size
 have lb35 := (Nat.lt_of_lt_of_le (blk_lt x6) (s21).size)
 have lb36 := (Cur.lt x19)
 refine Fc [.pointer (some ⟨b11, 0, none⟩)] (anyNetwork_any b11 w.heap.size 0 _ x19 (by omega)) ?_
 rintro e w38 ⟨m22, A23, n24, c25, ps26, rfl, ⟨ho27, hsm28⟩, x40, g39⟩
 have s41 := SG.of_grown s21 g39 (.inl rfl)
 refine ⟨_, rfl, s41, ?_⟩
 refine F.nx ?_
 have rd33 := own_rd ho27
 have fm32 := own_fm ho27
 have hl30 := rd_pipes_len rd33
 have fr34 := freshA_of ho27 (Nat.le_refl _)
 have hsm28m := hsm28.1
 have hsm28n := hsm28.2.1
 have sp42 : Sp A23 n24 (some b2) := sp_fresh fr34 lb35
 have sp43 : Sp A23 n24 (some b11) := sp_fresh fr34 lb36
 refine W.sn (fun b => .pointer (some ⟨b, 0, none⟩)) #[.int .i64 0, .slice none 0 0] 26 s41 rfl kk rfl (fun _ => by kernel_rfl) (fun b44 w45 hb46 k47 x48 s49 => ?_)
 refine F.nx ?_
 have lo50 : w.heap.size ≤ b44 := Nat.le_trans ((SG.belowR c20 s41 (fun kq e => by cases e; exact lo17))).size (Nat.le_of_eq hb46)
 have sp51 : Sp A23 n24 (some b44) := sp_new rd33 (by have := hb46; omega)
 have ne52 : b2 ≠ b44 := Nat.ne_of_lt (Nat.lt_of_lt_of_eq (Nat.lt_of_lt_of_le (blk_lt x6) (s41).size) hb46)
 have ne53 : b11 ≠ b44 := Nat.ne_of_lt (Nat.lt_of_lt_of_eq (Cur.lt x40) hb46)
 have x40 := Cur.below x40 k47
 have rd54 := Rd.kept rd33 k47
 refine W.ss (v := .agg #[.int .i64 m22, .slice A23 n24 c25]) (j := 0) (news := [.int .i64 m22, .slice A23 n24 c25]) (cs' := #[.int .i64 m22, .slice A23 n24 c25]) s49 rfl kk rfl rfl kk kk x48 kk kk (by simp) kk kk (.inr (Nat.le_trans (s41).size (Nat.le_of_eq hb46))) (fun w55 g56 x57 s58 => ?_)
 have x40 := Cur.grown x40 g56 (fun e9 => ne53 (Option.some.inj e9)) (fun j e => by cases e; exact Nat.le_trans hN lo50)
 have rd59 := rd_sepG rd54 g56 sp51
 refine F.es ?_
 have x6 := SG.blk s58 x6 (fun e9 => ne18 (Option.some.inj e9))
 have c60 := (SG.belowR c20 s58 (fun kq e => by cases e; exact lo17))
 refine h3 _ _ ?_
 refine wk fun K4 h4 => ?_
 refine M.region_sch (row := [(some b11), (some b2)]) (Sch.of [(0, false), (1, false), (2, false), (3, true), (4, true), (5, false)]) kk kk (fun _ d _ _ _ h => by cases d <;> exact h) kk (fun w61 e62 s63 => ?_)
 have x64 := Cur.heap x40 e62
 have x65 := (heap_same e62 x6)
 refine Fq (.agg #[.int .i64 m22, .slice A23 n24 c25]) (r_load2 rfl ek kk kk (smS (blk_cell (j := 0) x57 kk) (ne2 (fun e9 => ne53 (Option.some.inj e9).symm) (fun e9 => ne52 (Option.some.inj e9).symm))) (smS (blk_cell (j := 1) x57 kk) (ne2 (fun e9 => ne53 (Option.some.inj e9).symm) (fun e9 => ne52 (Option.some.inj e9).symm)))) ?_
 refine Fv (.pointer (some ⟨b11, 0, none⟩)) ?_
 refine Fq (.agg #[.int .i64 m22, .slice A23 n24 c25]) (r_load2 rfl ek kk kk (smS (blk_cell (j := 0) x57 kk) (ne2 (fun e9 => ne53 (Option.some.inj e9).symm) (fun e9 => ne52 (Option.some.inj e9).symm))) (smS (blk_cell (j := 1) x57 kk) (ne2 (fun e9 => ne53 (Option.some.inj e9).symm) (fun e9 => ne52 (Option.some.inj e9).symm)))) ?_
 have z72 := ((SM.belowR c60 s63 (in2 (fun kq e => (by cases e; exact lo17)) (fun kq e => (by cases e; exact lo8))))).size
 have lb79 := (blk_lt x65)
 have lb80 := (Cur.lt x64)
 have lb81 := (Nat.lt_of_lt_of_le (blk_lt x57) (s63).size)
 refine Fc [.pointer (some ⟨b11, 0, none⟩), .agg #[.int .i64 m22, .slice A23 n24 c25]] (valves_any b11 w.heap.size (0 + 400) m22 A23 n24 c25 ps26 _ x64 (by omega) (rd_sepM rd59 s63 (sp2 sp43 sp42)) sp43 (by omega) (by omega)) ?_
 rintro e w83 ⟨A66, n67, c68, vs69, rfl, ⟨ho70, hsm71⟩, x85, g84⟩
 have s86 := SM.of_grown s63 g84 (.inl (by simp))
 refine ⟨_, rfl, s86, ?_⟩
 refine F.nx ?_
 have x65 := (g84.block _ (blk_lt x65) (fun e9 => ne18 (Option.some.inj e9))).trans x65
 have rd77 := own_rd ho70
 have fm76 := own_fm ho70
 have hl74 := rd_valves_len rd77
 have fr78 := freshA_of ho70 (Nat.le_refl _)
 have sp87 : Sp A66 n67 (some b2) := sp_fresh fr78 lb79
 refine M.ss (v := .agg #[.int .i64 m22, .slice A23 n24 c25]) (j := 0) (news := [.int .i64 m22, .slice A23 n24 c25]) (cs' := #[.int .i64 m22, .slice A23 n24 c25]) s86 rfl kk rfl rfl kk kk x65 kk kk (by simp) kk kk (.inl (by simp)) (fun w90 g91 x92 s93 => ?_)
 have rd94 := rd_sepG rd77 g91 sp87
 refine Fa (.slice A66 n67 c68) ?_
 refine F.es ?_
 have c95 := (SM.belowR c60 s93 (in2 (fun kq e => (by cases e; exact lo17)) (fun kq e => (by cases e; exact lo8))))
 have rd96 := rd_sepM rd59 s93 (sp2 sp43 sp42)
 refine h4 _ _ ?_
 refine wp_ret ?_
 try simp only [Exit.then]
 refine retCT (x := .slice A66 n67 c68) rfl kk kk kk kk x92 ?_
 exact ⟨_, _, _, _, ps26, _, _, _, vs69, rfl, ⟨⟨rd96, fm32, (freshA_mono fr34 z29)⟩, hsm28⟩, ⟨⟨rd94, fm76, (freshA_mono fr78 z72)⟩, by first | omega | (simp; omega)⟩, c95⟩
set_option maxRecDepth 100000 in
set_option maxHeartbeats 8000000 in
theorem DrawSegmentOfNode_any (A : Option Addr) (n c : Nat) (zs : List Int) (w : World) (hcode : Rd w 1 A n (bytesV zs)) (hz : ∀ z ∈ zs, 0 ≤ z ∧ z < 256) (hn : n ≤ 4611686018427387904) :
    Calls Try.prog 22 #[.slice A n c] w fun e w' => ∃ (m : Int) (A1 : Option Addr) (n1 c1 : Nat) (ps : List Pp) (A2 : Option Addr) (n2 c2 : Nat) (vs : List Vv) (x2 : Int), e = .returned (.tuple #[.agg #[.int .i64 m, .slice A1 n1 c1], .slice A2 n2 c2, .int .i64 x2]) ∧ ((Rd w' 4 A1 n1 (pipesV ps) ∧ Fm A1 n1 c1 ∧ freshA w.heap.size A1 n1) ∧ smD 30 m ps) ∧ ((Rd w' 4 A2 n2 (valvesV vs) ∧ Fm A2 n2 c2 ∧ freshA w.heap.size A2 n2) ∧ vs.length ≤ 11) ∧ Below w.heap.size w w' := by
 have hl := rd_bytes_len hcode
 go_enter Try.func22, Try.ntmps22
 refine F.begin 19 [(0, .slice A n c)] (fun U0 => ?_)
 refine wk fun K1 h1 => ?_
 refine W.region_plain (row := none) [(0, true), (1, false), (2, false)] kk ?_
 have s1 := SG.self w none
 refine W.sn (fun b => .pointer (some ⟨b, 0, none⟩)) #[.int .i64 0, .slice none 0 0] 26 s1 rfl kk rfl (fun _ => by kernel_rfl) (fun b2 w3 hb4 k5 x6 s7 => ?_)
 refine F.nx ?_
 have lo8 : w.heap.size ≤ b2 := Nat.le_trans ((SG.belowR (Below.refl _ _) s1 (fun kq e => by cases e))).size (Nat.le_of_eq hb4)
 refine Fa (.slice none 0 0) ?_
 refine Fa (.int .i64 0) ?_
 refine F.es ?_
 have c9 := (SG.belowR (Below.refl _ _) s7 (fun kq e => by cases e))
 refine h1 _ _ ?_
 refine wk fun K2 h2 => ?_
 refine W.region_plain (row := none) [(0, false), (1, false), (2, true), (3, false)] kk ?_
 have s10 := SG.self w3 none
 refine Fv (.slice A n c) ?_
 refine Fq (.agg #[.slice A n c, .int .i64 0, .int .u64 0]) (r_build rfl (vs := [(0, .slice A n c)]) kk kk) ?_
 refine W.sn (fun b => .pointer (some ⟨b, 0, none⟩)) #[.slice A n c, .int .i64 0, .int .u64 0] 86 s10 rfl kk rfl (fun _ => by kernel_rfl) (fun b11 w12 hb13 k14 x15 s16 => ?_)
 refine F.nx ?_
 have lo17 : w.heap.size ≤ b11 := Nat.le_trans ((SG.belowR c9 s10 (fun kq e => by cases e))).size (Nat.le_of_eq hb13)
 have ne18 : b2 ≠ b11 := Nat.ne_of_lt (Nat.lt_of_lt_of_eq (Nat.lt_of_lt_of_le (blk_lt x6) (s10).size) hb13)
 have x19 := Cur.new x15 hcode hz hn ((SG.belowR c9 s16 (fun kq e => by cases e))) lo17
 have hN : w.heap.size ≤ w.heap.size := Nat.le_refl _
 refine Fa (.pointer (some ⟨b11, 0, none⟩)) ?_
 refine F.es ?_
 have x6 := SG.blk s16 x6 (Option.some_ne_none _)
 have c20 := (SG.belowR c9 s16 (fun kq e => by cases e))
 refine h2 _ _ ?_
 refine wk fun K3 h3 => ?_
 refine W.region_plain (row := (some b11)) [(0, false), (1, true), (2, true), (3, true)] kk ?_
 have s21 := SG.self w12 (some b11)
 refine Fv (.pointer (some ⟨b11, 0, none⟩)) ?_
 have z29 := ((SG.belowR c20 s21 (fun kq e => by cases e; exact lo17))).size
 have lb35 := (Nat.lt_of_lt_of_le (blk_lt x6) (s21).size)
 have lb36 := (Cur.lt x19)
 refine Fc [.pointer (some ⟨b11, 0, none⟩)] (anyNetwork_any b11 w.heap.size 0 _ x19 (by omega)) ?_
 rintro e w38 ⟨m22, A23, n24, c25, ps26, rfl, ⟨ho27, hsm28⟩, x40, g39⟩
 have s41 := SG.of_grown s21 g39 (.inl rfl)
 refine ⟨_, rfl, s41, ?_⟩
 refine F.nx ?_
 have rd33 := own_rd ho27
 have fm32 := own_fm ho27
 have hl30 := rd_pipes_len rd33
 have fr34 := freshA_of ho27 (Nat.le_refl _)
 have hsm28m := hsm28.1
 have hsm28n := hsm28.2.1
 have sp42 : Sp A23 n24 (some b2) := sp_fresh fr34 lb35
 have sp43 : Sp A23 n24 (some b11) := sp_fresh fr34 lb36
 refine W.sn (fun b => .pointer (some ⟨b, 0, none⟩)) #[.int .i64 0, .slice none 0 0] 26 s41 rfl kk rfl (fun _ => by kernel_rfl) (fun b44 w45 hb46 k47 x48 s49 => ?_)
 refine F.nx ?_
 have lo50 : w.heap.size ≤ b44 := Nat.le_trans ((SG.belowR c20 s41 (fun kq e => by cases e; exact lo17))).size (Nat.le_of_eq hb46)
 have sp51 : Sp A23 n24 (some b44) := sp_new rd33 (by have := hb46; omega)
 have ne52 : b2 ≠ b44 := Nat.ne_of_lt (Nat.lt_of_lt_of_eq (Nat.lt_of_lt_of_le (blk_lt x6) (s41).size) hb46)
 have ne53 : b11 ≠ b44 := Nat.ne_of_lt (Nat.lt_of_lt_of_eq (Cur.lt x40) hb46)
 have x40 := Cur.below x40 k47
 have rd54 := Rd.kept rd33 k47
 refine W.ss (v := .agg #[.int .i64 m22, .slice A23 n24 c25]) (j := 0) (news := [.int .i64 m22, .slice A23 n24 c25]) (cs' := #[.int .i64 m22, .slice A23 n24 c25]) s49 rfl kk rfl rfl kk kk x48 kk kk (by simp) kk kk (.inr (Nat.le_trans (s41).size (Nat.le_of_eq hb46))) (fun w55 g56 x57 s58 => ?_)
 have x40 := Cur.grown x40 g56 (fun e9 => ne53 (Option.some.inj e9)) (fun j e => by cases e; exact Nat.le_trans hN lo50)
 have rd59 := rd_sepG rd54 g56 sp51
 refine F.es ?_
 have x6 := SG.blk s58 x6 (fun e9 => ne18 (Option.some.inj e9))
 have c60 := (SG.belowR c20 s58 (fun kq e => by cases e; exact lo17))
 refine h3 _ _ ?_
 refine wk fun K4 h4 => ?_
 refine M.region_sch (row := [(some b11), (some b2)]) (Sch.of [(0, false), (1, false), (2, false), (4, false), (5, false), (3, true), (6, true), (7, true), (8, false), (9, false)]) kk kk (fun _ d _ _ _ h => by cases d <;> exact h) kk (fun w61 e62 s63 => ?_)
 have x64 := Cur.heap x40 e62
 have x65 := (heap_same e62 x6)
 refine Fq (.agg #[.int .i64 m22, .slice A23 n24 c25]) (r_load2 rfl ek kk kk (smS (blk_cell (j := 0) x57 kk) (ne2 (fun e9 => ne53 (Option.some.inj e9).symm) (fun e9 => ne52 (Option.some.inj e9).symm))) (smS (blk_cell (j := 1) x57 kk) (ne2 (fun e9 => ne53 (Option.some.inj e9).symm) (fun e9 => ne52 (Option.some.inj e9).symm)))) ?_
 refine Fv (.pointer (some ⟨b11, 0, none⟩)) ?_
 refine Fq (.agg #[.int .i64 m22, .slice A23 n24 c25]) (r_load2 rfl ek kk kk (smS (blk_cell (j := 0) x57 kk) (ne2 (fun e9 => ne53 (Option.some.inj e9).symm) (fun e9 => ne52 (Option.some.inj e9).symm))) (smS (blk_cell (j := 1) x57 kk) (ne2 (fun e9 => ne53 (Option.some.inj e9).symm) (fun e9 => ne52 (Option.some.inj e9).symm)))) ?_
 refine Fv (.pointer (some ⟨b11, 0, none⟩)) ?_
 refine Fq (.agg #[.int .i64 m22, .slice A23 n24 c25]) (r_load2 rfl ek kk kk (smS (blk_cell (j := 0) x57 kk) (ne2 (fun e9 => ne53 (Option.some.inj e9).symm) (fun e9 => ne52 (Option.some.inj e9).symm))) (smS (blk_cell (j := 1) x57 kk) (ne2 (fun e9 => ne53 (Option.some.inj e9).symm) (fun e9 => ne52 (Option.some.inj e9).symm)))) ?_
 have z72 := ((SM.belowR c60 s63 (in2 (fun kq e => (by cases e; exact lo17)) (fun kq e => (by cases e; exact lo8))))).size
 have lb79 := (blk_lt x65)
 have lb80 := (Cur.lt x64)
 have lb81 := (Nat.lt_of_lt_of_le (blk_lt x57) (s63).size)
 refine Fc [.pointer (some ⟨b11, 0, none⟩), .agg #[.int .i64 m22, .slice A23 n24 c25]] (valves_any b11 w.heap.size (0 + 400) m22 A23 n24 c25 ps26 _ x64 (by omega) (rd_sepM rd59 s63 (sp2 sp43 sp42)) sp43 (by omega) (by omega)) ?_
 rintro e w83 ⟨A66, n67, c68, vs69, rfl, ⟨ho70, hsm71⟩, x85, g84⟩
 have s86 := SM.of_grown s63 g84 (.inl (by simp))
 refine ⟨_, rfl, s86, ?_⟩
 refine F.nx ?_
 have x65 := (g84.block _ (blk_lt x65) (fun e9 => ne18 (Option.some.inj e9))).trans x65
 have rd77 := own_rd ho70
 have fm76 := own_fm ho70
 have hl74 := rd_valves_len rd77
 have fr78 := freshA_of ho70 (Nat.le_refl _)
 have sp87 : Sp A66 n67 (some b2) := sp_fresh fr78 lb79
 have sp88 : Sp A66 n67 (some b11) := sp_fresh fr78 lb80
 refine Fc [.pointer (some ⟨b11, 0, none⟩), .agg #[.int .i64 m22, .slice A23 n24 c25]] (nodeOf_any b11 w.heap.size ((0 + 400) + 400) m22 A23 n24 c25 _ x85 (by omega) (by omega)) ?_
 rintro e w93 ⟨x90, rfl, hx91, x95, g94⟩
 have s96 := SM.of_grown s86 g94 (.inl (by simp))
 refine ⟨_, rfl, s96, ?_⟩
 refine F.nx ?_
 have x65 := (g94.block _ (blk_lt x65) (fun e9 => ne18 (Option.some.inj e9))).trans x65
 have rd97 := rd_sepG rd77 g94 sp88
 refine M.ss (v := .agg #[.int .i64 m22, .slice A23 n24 c25]) (j := 0) (news := [.int .i64 m22, .slice A23 n24 c25]) (cs' := #[.int .i64 m22, .slice A23 n24 c25]) s96 rfl kk rfl rfl kk kk x65 kk kk (by simp) kk kk (.inl (by simp)) (fun w98 g99 x100 s101 => ?_)
 have rd102 := rd_sepG rd97 g99 sp87
 refine Fa (.slice A66 n67 c68) ?_
 refine Fa (.int .i64 x90) ?_
 refine F.es ?_
 have c103 := (SM.belowR c60 s101 (in2 (fun kq e => (by cases e; exact lo17)) (fun kq e => (by cases e; exact lo8))))
 have rd104 := rd_sepM rd59 s101 (sp2 sp43 sp42)
 refine h4 _ _ ?_
 refine wp_ret ?_
 try simp only [Exit.then]
 refine retCTT (x1 := .slice A66 n67 c68) (x2 := .int .i64 x90) rfl kk kk kk x100 kk kk ?_
 exact ⟨_, _, _, _, ps26, _, _, _, vs69, _, rfl, ⟨⟨rd104, fm32, (freshA_mono fr34 z29)⟩, hsm28⟩, ⟨⟨rd102, fm76, (freshA_mono fr78 z72)⟩, by first | omega | (simp; omega)⟩, c103⟩
set_option maxRecDepth 100000 in
set_option maxHeartbeats 8000000 in
theorem DrawTurnValve_any (A : Option Addr) (n c : Nat) (zs : List Int) (w : World) (hcode : Rd w 1 A n (bytesV zs)) (hz : ∀ z ∈ zs, 0 ≤ z ∧ z < 256) (hn : n ≤ 4611686018427387904) :
    Calls Try.prog 24 #[.slice A n c] w fun e w' => ∃ (m : Int) (A1 : Option Addr) (n1 c1 : Nat) (ps : List Pp) (A2 : Option Addr) (n2 c2 : Nat) (vs : List Vv) (x2 : Int) (x3 : Bool), e = .returned (.tuple #[.agg #[.int .i64 m, .slice A1 n1 c1], .slice A2 n2 c2, .int .i64 x2, .bool x3]) ∧ ((Rd w' 4 A1 n1 (pipesV ps) ∧ Fm A1 n1 c1 ∧ freshA w.heap.size A1 n1) ∧ smD 30 m ps) ∧ ((Rd w' 4 A2 n2 (valvesV vs) ∧ Fm A2 n2 c2 ∧ freshA w.heap.size A2 n2) ∧ vs.length ≤ 11) ∧ Below w.heap.size w w' := by
 have hl := rd_bytes_len hcode
 go_enter Try.func24, Try.ntmps24
 refine F.begin 24 [(0, .slice A n c)] (fun U0 => ?_)
 refine wk fun K1 h1 => ?_
 refine W.region_plain (row := none) [(0, true), (1, false), (2, false), (3, false)] kk ?_
 have s1 := SG.self w none
 refine W.sn (fun b => .pointer (some ⟨b, 0, none⟩)) #[.int .i64 0, .slice none 0 0] 26 s1 rfl kk rfl (fun _ => by kernel_rfl) (fun b2 w3 hb4 k5 x6 s7 => ?_)
 refine F.nx ?_
 have lo8 : w.heap.size ≤ b2 := Nat.le_trans ((SG.belowR (Below.refl _ _) s1 (fun kq e => by cases e))).size (Nat.le_of_eq hb4)
 refine Fa (.slice none 0 0) ?_
 refine Fa (.int .i64 0) ?_
 refine Fa (.bool false) ?_
 refine F.es ?_
 have c9 := (SG.belowR (Below.refl _ _) s7 (fun kq e => by cases e))
 refine h1 _ _ ?_
 refine wk fun K2 h2 => ?_
 refine W.region_plain (row := none) [(0, false), (1, false), (2, true), (3, false)] kk ?_
 have s10 := SG.self w3 none
 refine Fv (.slice A n c) ?_
 refine Fq (.agg #[.slice A n c, .int .i64 0, .int .u64 0]) (r_build rfl (vs := [(0, .slice A n c)]) kk kk) ?_
 refine W.sn (fun b => .pointer (some ⟨b, 0, none⟩)) #[.slice A n c, .int .i64 0, .int .u64 0] 86 s10 rfl kk rfl (fun _ => by kernel_rfl) (fun b11 w12 hb13 k14 x15 s16 => ?_)
 refine F.nx ?_
 have lo17 : w.heap.size ≤ b11 := Nat.le_trans ((SG.belowR c9 s10 (fun kq e => by cases e))).size (Nat.le_of_eq hb13)
 have ne18 : b2 ≠ b11 := Nat.ne_of_lt (Nat.lt_of_lt_of_eq (Nat.lt_of_lt_of_le (blk_lt x6) (s10).size) hb13)
 have x19 := Cur.new x15 hcode hz hn ((SG.belowR c9 s16 (fun kq e => by cases e))) lo17
 have hN : w.heap.size ≤ w.heap.size := Nat.le_refl _
 refine Fa (.pointer (some ⟨b11, 0, none⟩)) ?_
 refine F.es ?_
 have x6 := SG.blk s16 x6 (Option.some_ne_none _)
 have c20 := (SG.belowR c9 s16 (fun kq e => by cases e))
 refine h2 _ _ ?_
 refine wk fun K3 h3 => ?_
 refine W.region_plain (row := (some b11)) [(0, false), (1, true), (2, true), (3, true)] kk ?_
 have s21 := SG.self w12 (some b11)
 refine Fv (.pointer (some ⟨b11, 0, none⟩)) ?_
 have z29 := ((SG.belowR c20 s21 (fun kq e => by cases e; exact lo17))).size
 have lb35 := (Nat.lt_of_lt_of_le (blk_lt x6) (s21).size)
 have lb36 := (Cur.lt x19)
 refine Fc [.pointer (some ⟨b11, 0, none⟩)] (anyNetwork_any b11 w.heap.size 0 _ x19 (by omega)) ?_
 rintro e w38 ⟨m22, A23, n24, c25, ps26, rfl, ⟨ho27, hsm28⟩, x40, g39⟩
 have s41 := SG.of_grown s21 g39 (.inl rfl)
 refine ⟨_, rfl, s41, ?_⟩
 refine F.nx ?_
 have rd33 := own_rd ho27
 have fm32 := own_fm ho27
 have hl30 := rd_pipes_len rd33
 have fr34 := freshA_of ho27 (Nat.le_refl _)
 have hsm28m := hsm28.1
 have hsm28n := hsm28.2.1
 have sp42 : Sp A23 n24 (some b2) := sp_fresh fr34 lb35
 have sp43 : Sp A23 n24 (some b11) := sp_fresh fr34 lb36
 refine W.sn (fun b => .pointer (some ⟨b, 0, none⟩)) #[.int .i64 0, .slice none 0 0] 26 s41 rfl kk rfl (fun _ => by kernel_rfl) (fun b44 w45 hb46 k47 x48 s49 => ?_)
 refine F.nx ?_
 have lo50 : w.heap.size ≤ b44 := Nat.le_trans ((SG.belowR c20 s41 (fun kq e => by cases e; exact lo17))).size (Nat.le_of_eq hb46)
 have sp51 : Sp A23 n24 (some b44) := sp_new rd33 (by have := hb46; omega)
 have ne52 : b2 ≠ b44 := Nat.ne_of_lt (Nat.lt_of_lt_of_eq (Nat.lt_of_lt_of_le (blk_lt x6) (s41).size) hb46)
 have ne53 : b11 ≠ b44 := Nat.ne_of_lt (Nat.lt_of_lt_of_eq (Cur.lt x40) hb46)
 have x40 := Cur.below x40 k47
 have rd54 := Rd.kept rd33 k47
 refine W.ss (v := .agg #[.int .i64 m22, .slice A23 n24 c25]) (j := 0) (news := [.int .i64 m22, .slice A23 n24 c25]) (cs' := #[.int .i64 m22, .slice A23 n24 c25]) s49 rfl kk rfl rfl kk kk x48 kk kk (by simp) kk kk (.inr (Nat.le_trans (s41).size (Nat.le_of_eq hb46))) (fun w55 g56 x57 s58 => ?_)
 have x40 := Cur.grown x40 g56 (fun e9 => ne53 (Option.some.inj e9)) (fun j e => by cases e; exact Nat.le_trans hN lo50)
 have rd59 := rd_sepG rd54 g56 sp51
 refine F.es ?_
 have x6 := SG.blk s58 x6 (fun e9 => ne18 (Option.some.inj e9))
 have c60 := (SG.belowR c20 s58 (fun kq e => by cases e; exact lo17))
 refine h3 _ _ ?_
 refine wk fun K4 h4 => ?_
 refine W.region_plain (row := (some b11)) [(0, false), (1, false), (2, true), (3, false)] kk ?_
 have s61 := SG.self w55 (some b11)
 refine Fv (.pointer (some ⟨b11, 0, none⟩)) ?_
 refine Fq (.agg #[.int .i64 m22, .slice A23 n24 c25]) (r_load2 rfl ek kk kk (sgS (blk_cell (j := 0) x57 kk) (fun e9 => ne53 (Option.some.inj e9).symm)) (sgS (blk_cell (j := 1) x57 kk) (fun e9 => ne53 (Option.some.inj e9).symm))) ?_
 have z68 := ((SG.belowR c60 s61 (fun kq e => by cases e; exact lo17))).size
 have lb75 := (Nat.lt_of_lt_of_le (blk_lt x6) (s61).size)
 have lb76 := (Cur.lt x40)
 have lb77 := (Nat.lt_of_lt_of_le (blk_lt x57) (s61).size)
 refine Fc [.pointer (some ⟨b11, 0, none⟩), .agg #[.int .i64 m22, .slice A23 n24 c25]] (valves_any b11 w.heap.size (0 + 400) m22 A23 n24 c25 ps26 _ x40 (by omega) (rd_sep rd59 s61 sp43) sp43 (by omega) (by omega)) ?_
 rintro e w79 ⟨A62, n63, c64, vs65, rfl, ⟨ho66, hsm67⟩, x81, g80⟩
 have s82 := SG.of_grown s61 g80 (.inl rfl)
 refine ⟨_, rfl, s82, ?_⟩
 refine F.nx ?_
 have rd73 := own_rd ho66
 have fm72 := own_fm ho66
 have hl70 := rd_valves_len rd73
 have fr74 := freshA_of ho66 (Nat.le_refl _)
 have sp83 : Sp A62 n63 (some b2) := sp_fresh fr74 lb75
 have sp84 : Sp A62 n63 (some b11) := sp_fresh fr74 lb76
 refine Fa (.slice A62 n63 c64) ?_
 refine F.es ?_
 have x6 := SG.blk s82 x6 (fun e9 => ne18 (Option.some.inj e9))
 have x57 := SG.blk s82 x57 (fun e9 => ne53 (Option.some.inj e9).symm)
 have c86 := (SG.belowR c60 s82 (fun kq e => by cases e; exact lo17))
 have rd87 := rd_sep rd59 s82 sp43
 refine h4 _ _ ?_
 refine wk fun K5 h5 => ?_
 refine M.region_sch (row := [(some b11), (some b2)]) (Sch.of [(0, false), (1, false), (2, false), (3, false), (5, false), (4, true), (6, true), (7, true), (8, false), (9, false), (10, false)]) kk kk (fun _ d _ _ _ h => by cases d <;> exact h) kk (fun w88 e89 s90 => ?_)
 have x91 := Cur.heap x81 e89
 have x92 := (heap_same e89 x6)
 refine Fq (.agg #[.int .i64 m22, .slice A23 n24 c25]) (r_load2 rfl ek kk kk (smS (blk_cell (j := 0) x57 kk) (ne2 (fun e9 => ne53 (Option.some.inj e9).symm) (fun e9 => ne52 (Option.some.inj e9).symm))) (smS (blk_cell (j := 1) x57 kk) (ne2 (fun e9 => ne53 (Option.some.inj e9).symm) (fun e9 => ne52 (Option.some.inj e9).symm)))) ?_
 refine Fv (.slice A62 n63 c64) ?_
 refine Fv (.pointer (some ⟨b11, 0, none⟩)) ?_
 refine Fv (.slice A62 n63 c64) ?_
 refine Fv (.pointer (some ⟨b11, 0, none⟩)) ?_
 refine Fc [.pointer (some ⟨b11, 0, none⟩), .slice A62 n63 c64] (valveOf_any b11 w.heap.size ((0 + 400) + 400) A62 n63 c64 vs65 _ x91 (by omega) (rd_sepM rd73 s90 (sp2 sp84 sp83)) sp84 (by omega)) ?_
 rintro e w96 ⟨x93, rfl, hx94, x98, g97⟩
 have s99 := SM.of_grown s90 g97 (.inl (by simp))
 refine ⟨_, rfl, s99, ?_⟩
 refine F.nx ?_
 have x92 := (g97.block _ (blk_lt x92) (fun e9 => ne18 (Option.some.inj e9))).trans x92
 refine Fc [.pointer (some ⟨b11, 0, none⟩), .int .i64 2] (one_any b11 w.heap.size (((0 + 400) + 400) + 4) 2 _ x98 (by omega) (by omega)) ?_
 rintro e w103 ⟨b100, rfl, _, x105, g104⟩
 have s106 := SM.of_grown s99 g104 (.inl (by simp))
 refine ⟨_, rfl, s106, ?_⟩
 refine F.nx ?_
 have x92 := (g104.block _ (blk_lt x92) (fun e9 => ne18 (Option.some.inj e9))).trans x92
 rcases Bool.eq_false_or_eq_true b100 with q107 | q107
 ·rw [q107]
  refine M.ss (v := .agg #[.int .i64 m22, .slice A23 n24 c25]) (j := 0) (news := [.int .i64 m22, .slice A23 n24 c25]) (cs' := #[.int .i64 m22, .slice A23 n24 c25]) s106 rfl kk rfl rfl kk kk x92 kk kk (by simp) kk kk (.inl (by simp)) (fun w108 g109 x110 s111 => ?_)
  refine Fa (.slice A62 n63 c64) ?_
  refine Fa (.int .i64 x93) ?_
  refine Fa (.bool true) ?_
  refine F.es ?_
  have c112 := (SM.belowR c86 s111 (in2 (fun kq e => (by cases e; exact lo17)) (fun kq e => (by cases e; exact lo8))))
  have rd113 := rd_sepM rd87 s111 (sp2 sp43 sp42)
  have rd114 := rd_sepM rd73 s111 (sp2 sp84 sp83)
  refine h5 _ _ ?_
  refine wp_ret ?_
  try simp only [Exit.then]
  refine retCTTT (x1 := .slice A62 n63 c64) (x2 := .int .i64 x93) (x3 := .bool true) rfl kk kk kk x110 kk kk kk ?_
  exact ⟨_, _, _, _, ps26, _, _, _, vs65, _, _, rfl, ⟨⟨rd113, fm32, (freshA_mono fr34 z29)⟩, hsm28⟩, ⟨⟨rd114, fm72, (freshA_mono fr74 z68)⟩, by first | omega | (simp; omega)⟩, c112⟩
 rw [q107]
 refine M.ss (v := .agg #[.int .i64 m22, .slice A23 n24 c25]) (j := 0) (news := [.int .i64 m22, .slice A23 n24 c25]) (cs' := #[.int .i64 m22, .slice A23 n24 c25]) s106 rfl kk rfl rfl kk kk x92 kk kk (by simp) kk kk (.inl (by simp)) (fun w115 g116 x117 s118 => ?_)
 refine Fa (.slice A62 n63 c64) ?_
 refine Fa (.int .i64 x93) ?_
 refine Fa (.bool false) ?_
 refine F.es ?_
 have c119 := (SM.belowR c86 s118 (in2 (fun kq e => (by cases e; exact lo17)) (fun kq e => (by cases e; exact lo8))))
 have rd120 := rd_sepM rd87 s118 (sp2 sp43 sp42)
 have rd121 := rd_sepM rd73 s118 (sp2 sp84 sp83)
 refine h5 _ _ ?_
 refine wp_ret ?_
 try simp only [Exit.then]
 refine retCTTT (x1 := .slice A62 n63 c64) (x2 := .int .i64 x93) (x3 := .bool false) rfl kk kk kk x117 kk kk kk ?_
 exact ⟨_, _, _, _, ps26, _, _, _, vs65, _, _, rfl, ⟨⟨rd120, fm32, (freshA_mono fr34 z29)⟩, hsm28⟩, ⟨⟨rd121, fm72, (freshA_mono fr74 z68)⟩, by first | omega | (simp; omega)⟩, c119⟩
set_option maxRecDepth 100000 in
set_option maxHeartbeats 8000000 in
theorem DrawDryNodes_any (A : Option Addr) (n c : Nat) (zs : List Int) (w : World) (hcode : Rd w 1 A n (bytesV zs)) (hz : ∀ z ∈ zs, 0 ≤ z ∧ z < 256) (hn : n ≤ 4611686018427387904) :
    Calls Try.prog 27 #[.slice A n c] w fun e w' => ∃ (m : Int) (A1 : Option Addr) (n1 c1 : Nat) (ps : List Pp) (A2 : Option Addr) (n2 c2 : Nat) (vs : List Vv) (x2 : Int), e = .returned (.tuple #[.agg #[.int .i64 m, .slice A1 n1 c1], .slice A2 n2 c2, .int .i64 x2]) ∧ ((Rd w' 4 A1 n1 (pipesV ps) ∧ Fm A1 n1 c1 ∧ freshA w.heap.size A1 n1) ∧ smD 30 m ps) ∧ ((Rd w' 4 A2 n2 (valvesV vs) ∧ Fm A2 n2 c2 ∧ freshA w.heap.size A2 n2) ∧ vs.length ≤ 11) ∧ Below w.heap.size w w' := by
 have hl := rd_bytes_len hcode
 go_enter Try.func27, Try.ntmps27
 refine F.begin 10 [(0, .slice A n c)] (fun U0 => ?_)
 refine wk fun K1 h1 => ?_
 refine W.region_plain (row := none) [(0, true), (1, false), (2, false)] kk ?_
 have s1 := SG.self w none
 refine W.sn (fun b => .pointer (some ⟨b, 0, none⟩)) #[.int .i64 0, .slice none 0 0] 26 s1 rfl kk rfl (fun _ => by kernel_rfl) (fun b2 w3 hb4 k5 x6 s7 => ?_)
 refine F.nx ?_
 have lo8 : w.heap.size ≤ b2 := Nat.le_trans ((SG.belowR (Below.refl _ _) s1 (fun kq e => by cases e))).size (Nat.le_of_eq hb4)
 refine Fa (.slice none 0 0) ?_
 refine Fa (.int .i64 0) ?_
 refine F.es ?_
 have c9 := (SG.belowR (Below.refl _ _) s7 (fun kq e => by cases e))
 refine h1 _ _ ?_
 refine wk fun K2 h2 => ?_
 refine W.region_plain (row := (some b2)) [(0, false), (1, true), (2, false), (3, false), (4, false), (5, true), (6, false), (7, false)] kk ?_
 have s10 := SG.self w3 (some b2)
 refine Fv (.slice A n c) ?_
 have lb12 := (blk_lt x6)
 have z11 := ((SG.belowR c9 s10 (fun kq e => by cases e; exact lo8))).size
 refine Fc [.slice A n c] (DrawSegmentOfNode_any A n c zs _ (Rd.kept hcode (SG.belowR c9 s10 (fun kq e => by cases e; exact lo8))) hz hn) ?_
 rintro e w36 ⟨m13, A14, n15, c16, dl17, A24, n25, c26, dl27, x34, rfl, ⟨⟨rd18, fm19, fr23⟩, hsm20⟩, ⟨⟨rd28, fm29, fr33⟩, hsm30⟩, b35⟩
 have s37 := SG.of_below s10 b35
 refine ⟨_, rfl, s37, ?_⟩
 refine F.nx ?_
 have x6 := (b35.block _ (blk_lt x6)).trans x6
 have hl21 := rd_pipes_len rd18
 have sp38 : Sp A14 n15 (some b2) := sp_fresh fr23 lb12
 have hsm20m := hsm20.1
 have hsm20n := hsm20.2.1
 have hl31 := rd_valves_len rd28
 have sp39 : Sp A24 n25 (some b2) := sp_fresh fr33 lb12
 refine Fq (.agg #[.int .i64 m13, .slice A14 n15 c16]) (r_extract (vs := #[.agg #[.int .i64 m13, .slice A14 n15 c16], .slice A24 n25 c26, .int .i64 x34]) rfl ek kk) ?_
 refine Fq (.slice A24 n25 c26) (r_extract (vs := #[.agg #[.int .i64 m13, .slice A14 n15 c16], .slice A24 n25 c26, .int .i64 x34]) rfl ek kk) ?_
 refine Fq (.int .i64 x34) (r_extract (vs := #[.agg #[.int .i64 m13, .slice A14 n15 c16], .slice A24 n25 c26, .int .i64 x34]) rfl ek kk) ?_
 refine W.ss (v := .agg #[.int .i64 m13, .slice A14 n15 c16]) (j := 0) (news := [.int .i64 m13, .slice A14 n15 c16]) (cs' := #[.int .i64 m13, .slice A14 n15 c16]) s37 rfl kk rfl rfl kk kk x6 kk kk (by simp) kk kk (.inl rfl) (fun w40 g41 x42 s43 => ?_)
 have rd44 := rd_sepG rd18 g41 sp38
 have rd45 := rd_sepG rd28 g41 sp39
 refine Fa (.slice A24 n25 c26) ?_
 refine Fa (.int .i64 x34) ?_
 refine F.es ?_
 have c46 := (SG.belowR c9 s43 (fun kq e => by cases e; exact lo8))
 refine h2 _ _ ?_
 refine wp_ret ?_
 try simp only [Exit.then]
 refine retCTT (x1 := .slice A24 n25 c26) (x2 := .int .i64 x34) rfl kk kk kk x42 kk kk ?_
 exact ⟨_, _, _, _, dl17, _, _, _, dl27, _, rfl, ⟨⟨rd44, fm19, (freshA_mono fr23 z11)⟩, hsm20⟩, ⟨⟨rd45, fm29, (freshA_mono fr33 z11)⟩, by first | omega | (simp; omega)⟩, c46⟩
set_option maxRecDepth 100000 in
set_option maxHeartbeats 8000000 in
theorem DrawNeedlessValves_any (A : Option Addr) (n c : Nat) (zs : List Int) (w : World) (hcode : Rd w 1 A n (bytesV zs)) (hz : ∀ z ∈ zs, 0 ≤ z ∧ z < 256) (hn : n ≤ 4611686018427387904) :
    Calls Try.prog 30 #[.slice A n c] w fun e w' => ∃ (m : Int) (A1 : Option Addr) (n1 c1 : Nat) (ps : List Pp) (A2 : Option Addr) (n2 c2 : Nat) (vs : List Vv), e = .returned (.tuple #[.agg #[.int .i64 m, .slice A1 n1 c1], .slice A2 n2 c2]) ∧ ((Rd w' 4 A1 n1 (pipesV ps) ∧ Fm A1 n1 c1 ∧ freshA w.heap.size A1 n1) ∧ smD 30 m ps) ∧ ((Rd w' 4 A2 n2 (valvesV vs) ∧ Fm A2 n2 c2 ∧ freshA w.heap.size A2 n2) ∧ vs.length ≤ 11) ∧ Below w.heap.size w w' := by
 have hl := rd_bytes_len hcode
 go_enter Try.func30, Try.ntmps30
 refine F.begin 8 [(0, .slice A n c)] (fun U0 => ?_)
 refine wk fun K1 h1 => ?_
 refine W.region_plain (row := none) [(0, true), (1, false)] kk ?_
 have s1 := SG.self w none
 refine W.sn (fun b => .pointer (some ⟨b, 0, none⟩)) #[.int .i64 0, .slice none 0 0] 26 s1 rfl kk rfl (fun _ => by kernel_rfl) (fun b2 w3 hb4 k5 x6 s7 => ?_)
 refine F.nx ?_
 have lo8 : w.heap.size ≤ b2 := Nat.le_trans ((SG.belowR (Below.refl _ _) s1 (fun kq e => by cases e))).size (Nat.le_of_eq hb4)
 refine Fa (.slice none 0 0) ?_
 refine F.es ?_
 have c9 := (SG.belowR (Below.refl _ _) s7 (fun kq e => by cases e))
 refine h1 _ _ ?_
 refine wk fun K2 h2 => ?_
 refine W.region_plain (row := (some b2)) [(0, false), (1, true), (2, false), (3, false), (4, true), (5, false)] kk ?_
 have s10 := SG.self w3 (some b2)
 refine Fv (.slice A n c) ?_
 have lb12 := (blk_lt x6)
 have z11 := ((SG.belowR c9 s10 (fun kq e => by cases e; exact lo8))).size
 refine Fc [.slice A n c] (DrawIsValidValves_any A n c zs _ (Rd.kept hcode (SG.belowR c9 s10 (fun kq e => by cases e; exact lo8))) hz hn) ?_
 rintro e w35 ⟨m13, A14, n15, c16, dl17, A24, n25, c26, dl27, rfl, ⟨⟨rd18, fm19, fr23⟩, hsm20⟩, ⟨⟨rd28, fm29, fr33⟩, hsm30⟩, b34⟩
 have s36 := SG.of_below s10 b34
 refine ⟨_, rfl, s36, ?_⟩
 refine F.nx ?_
 have x6 := (b34.block _ (blk_lt x6)).trans x6
 have hl21 := rd_pipes_len rd18
 have sp37 : Sp A14 n15 (some b2) := sp_fresh fr23 lb12
 have hsm20m := hsm20.1
 have hsm20n := hsm20.2.1
 have hl31 := rd_valves_len rd28
 have sp38 : Sp A24 n25 (some b2) := sp_fresh fr33 lb12
 refine Fq (.agg #[.int .i64 m13, .slice A14 n15 c16]) (r_extract (vs := #[.agg #[.int .i64 m13, .slice A14 n15 c16], .slice A24 n25 c26]) rfl ek kk) ?_
 refine Fq (.slice A24 n25 c26) (r_extract (vs := #[.agg #[.int .i64 m13, .slice A14 n15 c16], .slice A24 n25 c26]) rfl ek kk) ?_
 refine W.ss (v := .agg #[.int .i64 m13, .slice A14 n15 c16]) (j := 0) (news := [.int .i64 m13, .slice A14 n15 c16]) (cs' := #[.int .i64 m13, .slice A14 n15 c16]) s36 rfl kk rfl rfl kk kk x6 kk kk (by simp) kk kk (.inl rfl) (fun w39 g40 x41 s42 => ?_)
 have rd43 := rd_sepG rd18 g40 sp37
 have rd44 := rd_sepG rd28 g40 sp38
 refine Fa (.slice A24 n25 c26) ?_
 refine F.es ?_
 have c45 := (SG.belowR c9 s42 (fun kq e => by cases e; exact lo8))
 refine h2 _ _ ?_
 refine wp_ret ?_
 try simp only [Exit.then]
 refine retCT (x := .slice A24 n25 c26) rfl kk kk kk kk x41 ?_
 exact ⟨_, _, _, _, dl17, _, _, _, dl27, rfl, ⟨⟨rd43, fm19, (freshA_mono fr23 z11)⟩, hsm20⟩, ⟨⟨rd44, fm29, (freshA_mono fr33 z11)⟩, by first | omega | (simp; omega)⟩, c45⟩
end Go.Proofs.Ytdbgfejeleafgaa
namespace Go.Proofs.Ytdbgfejeleafgaa
open Go.RowKit
set_option linter.unusedVariables false
set_option linter.unusedSimpArgs false
noncomputable def arQ (ps : List Pp) (vs : List Vv) (a : Int) (i : Int) : Bool := match vs[i.toNat]? with
  | some v => !(rb (linked ps (openQ vs false)) a v.node == rb (linked ps (openQ vs false)) a (9 + findL ps v.pipe))
  | none => false
noncomputable def aroundI (ps : List Pp) (vs : List Vv) (a : Int) (k : Nat) : List Int := (upTo k).filter (arQ ps vs a)
theorem aroundI_len (ps : List Pp) (vs : List Vv) (a : Int) (k : Nat) : (aroundI ps vs a k).length ≤ k := by
  unfold aroundI; have := List.length_filter_le (arQ ps vs a) (upTo k); rw [upTo_len] at this; exact this
theorem aroundI_in {ps : List Pp} {vs : List Vv} {a : Int} {k : Nat} {y : Int} (h : y ∈ aroundI ps vs a k) : 0 ≤ y ∧ y < k := by
  unfold aroundI at h; exact mem_upTo.1 (List.mem_filter.1 h).1
theorem aroundI_yes {ps : List Pp} {vs : List Vv} {a : Int} {i : Nat} {x : Vv} (hx : vs[i]? = some x) (h : rb (linked ps (openQ vs false)) a x.node ≠ rb (linked ps (openQ vs false)) a (9 + findL ps x.pipe)) : aroundI ps vs a (i + 1) = aroundI ps vs a i ++ [(i : Int)] := by
  unfold aroundI; rw [upTo_succ, List.filter_append, List.filter_cons_of_pos (by unfold arQ; rw [Int.toNat_natCast, hx]; simpa using h)]; rfl
theorem aroundI_no {ps : List Pp} {vs : List Vv} {a : Int} {i : Nat} {x : Vv} (hx : vs[i]? = some x) (h : rb (linked ps (openQ vs false)) a x.node = rb (linked ps (openQ vs false)) a (9 + findL ps x.pipe)) : aroundI ps vs a (i + 1) = aroundI ps vs a i := by
  unfold aroundI; rw [upTo_succ, List.filter_append, List.filter_cons_of_neg (by unfold arQ; rw [Int.toNat_natCast, hx]; simp [h]), List.filter_nil, List.append_nil]
def idsV (vs : List Vv) (xs : List Int) : List Int := xs.map (fun i => match vs[i.toNat]? with | some v => v.id | none => 0)
theorem idsV_len (vs : List Vv) (xs : List Int) : (idsV vs xs).length = xs.length := by simp [idsV]
theorem idsV_take {vs : List Vv} {xs : List Int} {i : Nat} {y : Int} {v : Vv} (hy : xs[i]? = some y) (hp : vs[y.toNat]? = some v) : idsV vs (xs.take (i + 1)) = idsV vs (xs.take i) ++ [v.id] := by
  rw [List.take_add_one, hy]; simp [idsV, hp]
def ValvesAround_v1 (m : Int) (ps : List Pp) (vs : List Vv) (a : Int) : Bool := goodV m ps vs && decide (0 ≤ findL ps a)
noncomputable def ValvesAround_v0 (m : Int) (ps : List Pp) (vs : List Vv) (a : Int) : List Int := if ValvesAround_v1 m ps vs a = true then idsV vs (aroundI ps vs (9 + findL ps a) vs.length) else []
theorem ValvesAround_len (m : Int) (ps : List Pp) (vs : List Vv) (a : Int) : (ValvesAround_v0 m ps vs a).length ≤ 1048576 := by
  unfold ValvesAround_v0
  split
  · rename_i h
    have hg : goodV m ps vs = true := by unfold ValvesAround_v1 at h; rw [Bool.and_eq_true] at h; exact h.1
    have := (goodV_of hg).len
    rw [idsV_len]
    have := aroundI_len ps vs (9 + findL ps a) vs.length
    omega
  · simp
set_option maxRecDepth 100000 in
set_option maxHeartbeats 8000000 in
theorem valvesAround_any (m : Int) (A : Option Addr) (n c : Nat) (ps : List Pp) (A2 : Option Addr) (n2 c2 : Nat) (vs : List Vv) (a : Int) (w : World) (ha : Rd w 4 A n (pipesV ps)) (hb : Rd w 4 A2 n2 (valvesV vs)) (hn : n ≤ 1048576) (hn2 : n2 ≤ 1048576) (hv9 : GoodVal m ps vs) (hfa : 0 ≤ findL ps a) :
    Calls Try.prog 85 #[.agg #[.int .i64 m, .slice A n c], .slice A2 n2 c2, .int .i64 a] w fun e w' => ∃ A' n' c', e = .returned (.slice A' n' c') ∧ w'.ownsRow w.heap.size 3 1 (.slice A' n' c') n' (intsV (aroundI ps vs (9 + findL ps a) vs.length)) ∧ Below w.heap.size w w' := by
 have hl := rd_pipes_len ha
 have hl2 := rd_valves_len hb
 have hg := hv9.net
 have hgl := hg.lo
 have hgh := hg.hi
 have hp := hg.pipesIn
 have hlen10 := hg.len
 have hu := hv9.uniq
 have hvl := hv9.len
 have hfl := findL_lt ps a
 go_enter Try.func85, Try.ntmps85
 refine F.begin 48 [(0, .agg #[.int .i64 m, .slice A n c]), (1, .slice A2 n2 c2), (2, .int .i64 a)] (fun U0 => ?_)
 refine wk fun K1 h1 => ?_
 refine W.region_plain (row := none) [(0, true), (1, false)] kk ?_
 have s1 := SG.self w none
 refine W.sn (fun b => .pointer (some ⟨b, 0, none⟩)) #[.int .i64 m, .slice A n c] 26 s1 rfl kk rfl (fun _ => by kernel_rfl) (fun b2 w3 hb4 k5 x6 s7 => ?_)
 refine F.nx ?_
 have lo8 : w.heap.size ≤ b2 := Nat.le_trans ((SG.belowR (Below.refl _ _) s1 (fun kq e => by cases e))).size (Nat.le_of_eq hb4)
 refine Fa (.slice none 0 0) ?_
 refine F.es ?_
 have c9 := (SG.belowR (Below.refl _ _) s7 (fun kq e => by cases e))
 refine h1 _ _ ?_
 refine wk fun K2 h2 => ?_
 refine W.region_sch (row := none) (Sch.app [(0, false), (1, false), (2, false), (3, false)] (.br 4 7 (Sch.app [] (.br 5 7 (Sch.app [] (.br 6 7 (Sch.of [(8, false), (7, true), (9, false)]) (Sch.of [(6, true), (8, false), (9, false)]))) (Sch.of [(5, true), (6, true), (8, false), (9, false)]))) (Sch.of [(4, true), (5, true), (6, true), (8, false), (9, false)]))) kk kk (fun _ d _ _ _ h => by cases d <;> exact h) kk (fun w10 e11 s12 => ?_)
 refine Fq (.agg #[.int .i64 m, .slice A n c]) (r_load2 rfl ek kk kk (sgS (blk_cell (j := 0) x6 kk) (Option.some_ne_none _)) (sgS (blk_cell (j := 1) x6 kk) (Option.some_ne_none _))) ?_
 refine Fv (.slice A2 n2 c2) ?_
 refine Fq (.agg #[.int .i64 m, .slice A n c]) (r_load2 rfl ek kk kk (sgS (blk_cell (j := 0) x6 kk) (Option.some_ne_none _)) (sgS (blk_cell (j := 1) x6 kk) (Option.some_ne_none _))) ?_
 refine Fv (.int .i64 a) ?_
 refine W.sbr ?_ ?_
 ·refine Fc [.agg #[.int .i64 m, .slice A n c], .int .i64 a] (pipeIndex_any m A n c ps a _ (Rd.kept ha (SG.belowR c9 s12 (fun kq e => by cases e))) (by omega)) ?_
  rintro e w14 ⟨rfl, b13⟩
  have s15 := SG.of_below s12 b13
  refine ⟨_, rfl, s15, ?_⟩
  refine F.nx ?_
  refine W.sbr ?_ ?_
  ·refine Fc [.int .i64 (findL ps a)] (element_any (findL ps a) _ (by omega)) ?_
   rintro e w' ⟨rfl, rfl⟩
   refine ⟨_, rfl, s15, ?_⟩
   refine F.nx ?_
   refine W.sbr ?_ ?_
   ·refine Fc [.agg #[.int .i64 m, .slice A n c], .slice A2 n2 c2, .int .i64 (9 + (findL ps a))] (segmentOf_any m A n c ps A2 n2 c2 vs (9 + (findL ps a)) (9 + (findL ps a)).toNat _ (Rd.kept ha (SG.belowR c9 s15 (fun kq e => by cases e))) (Rd.kept hb (SG.belowR c9 s15 (fun kq e => by cases e))) (by omega) (by omega) hp (by omega) (by omega) (by omega) (by omega)) ?_
    rintro e w24 ⟨pb18, rfl, lo22, rd19, b23⟩
    have s25 := SG.of_below s15 b23
    refine ⟨_, rfl, s25, ?_⟩
    refine F.nx ?_
    have hl20 := rd_bools_len rd19
    rw [wetL_len] at hl20
    have hl20 : (wetL (linked ps (openQ vs false)) (9 + (findL ps a))).length = 19 := wetL_len _ _
    refine Fa (.pointer (some ⟨pb18, 0, none⟩)) ?_
    refine W.sn (fun b => .slice (some ⟨b, 0, none⟩) 0 0) #[] 3 s25 rfl kk rfl (fun _ => by kernel_rfl) (fun b27 w28 hb29 k30 x31 s32 => ?_)
    refine F.nx ?_
    have lo33 : w.heap.size ≤ b27 := Nat.le_trans ((SG.belowR c9 s25 (fun kq e => by cases e))).size (Nat.le_of_eq hb29)
    have sp34 : Sp (some ⟨pb18, 0, none⟩) 19 (some b27) := sp_new rd19 (by have := hb29; omega)
    have ne35 : b2 ≠ b27 := Nat.ne_of_lt (Nat.lt_of_lt_of_eq (Nat.lt_of_lt_of_le (blk_lt x6) (s25).size) hb29)
    have rd36 := Rd.kept rd19 k30
    refine Fa (.slice (some ⟨b27, 0, none⟩) 0 0) ?_
    refine F.es ?_
    have x6 := SG.blk s32 x6 (Option.some_ne_none _)
    have c37 := (SG.belowR c9 s32 (fun kq e => by cases e))
    refine h2 _ _ ?_
    refine wk fun K3 h3 => ?_
    refine wk fun K4 h4 => ?_
    refine W.region_quiet [(0, false), (1, false), (2, false)] kk ?_
    refine Fv (.slice A2 n2 c2) ?_
    refine Fq (.int .i64 (n2 : Int)) (r_len (A := A2) (n := n2) (c := c2) rfl ek kk) ?_
    refine Fv (.int .i64 0) ?_
    refine F.es ?_
    refine h4 _ _ ?_
    refine wp_block ?_
    have ho38 := own_empty (base := w.heap.size) (size := 1) x31 lo33
    replace ho38 : World.ownsRow _ _ _ _ _ _ (intsV []) := ho38
    have sp39 := sp_own (n' := 0) (c := 0) sp34
    have nb40 : Nb b2 (.slice (some ⟨b27, 0, none⟩) 0 0) := nb_new ne35
    refine loopK (fun am0 aa0 wl0 => ∃ (i : Nat) (A0_8 : Option Addr) (n0_8 : Nat) (c0_8 : Nat) , Kn aa0 [(0, .agg #[.int .i64 m, .slice A n c]), (1, .slice A2 n2 c2), (2, .int .i64 a), (3, .pointer (some ⟨b2, 0, none⟩)), (6, .slice none 0 0), (7, .pointer (some ⟨pb18, 0, none⟩)), (8, .slice A0_8 n0_8 c0_8), (19, .slice A2 n2 c2), (20, .int .i64 (n2 : Int)), (21, .int .i64 (i : Int))] 48 ∧ (am0 = n2 - i) ∧ (i ≤ n2) ∧ (n0_8 ≤ i) ∧ (wl0.heap[b2]? = some (.cells #[.int .i64 m, .slice A n c] 26 (0, 0))) ∧ (wl0.ownsRow w.heap.size 3 1 (.slice A0_8 n0_8 c0_8) n0_8 (intsV (aroundI ps vs (9 + findL ps a) i))) ∧ (Nb b2 (.slice A0_8 n0_8 c0_8)) ∧ (Rd wl0 1 (some ⟨pb18, 0, none⟩) 19 (boolsV (wetL (linked ps (openQ vs false)) (9 + (findL ps a))))) ∧ (Sp (some ⟨pb18, 0, none⟩) 19 (Value.ownBlock (.slice A0_8 n0_8 c0_8))) ∧ (Below w.heap.size w wl0)) (n2 - 0) ?_ ?_
    ·exact ⟨0, (some ⟨b27, 0, none⟩), 0, 0, Kn.of, rfl, (Nat.zero_le _), (Nat.zero_le _), x6, ho38, nb40, rd36, sp39, c37⟩
    rintro am0 aa0 wl0 K5 h5 ⟨i, A0_8, n0_8, c0_8, ⟨U0, rfl⟩, rfl, hi, hb8, x6, ho0_8, nb0_8_b2, rd0_7, sp0_7_8, c41⟩
    refine wk fun K6 h6 => ?_
    refine W.region_quiet [(0, false)] kk ?_
    by_cases q42 : ((i : Int) : Int) < ((n2 : Int) : Int)
    ·refine Fq (.bool true) (r_lss (m := (i : Int)) (n := (n2 : Int)) rfl ek ek (decide_eq_true q42)) ?_
     refine F.es ?_
     refine h6 _ _ ?_
     refine wk fun K7 h7 => ?_
     refine wp_cond_true ek ?_
     refine wp_skip ?_
     refine h7 _ _ ?_
     refine wk fun K8 h8 => ?_
     refine wp_block ?_
     refine wk fun K9 h9 => ?_
     refine W.region_plain (row := none) [(0, false), (1, false), (2, false), (3, true), (4, false), (5, true)] kk ?_
     have s43 := SG.self wl0 none
     refine Fv (.int .i64 (i : Int)) ?_
     obtain ⟨x44, hx45⟩ := get_of (zs := vs) (k := i) (by have := hl2; omega)
     obtain ⟨b46, o47, hA48, hb49, hc50, hc51, hc52, hc53⟩ := Rd.elValve hb hx45
     refine Fq (.pointer (some ⟨b46, o47 + i * 4, none⟩)) (r_idx (n := n2) (c := c2) (k := i) rfl ek hA48 kk kk (by have := hl2; omega)) ?_
     refine Fq (.agg #[.int .i64 x44.id, .int .i64 x44.pipe, .int .i64 x44.node, .bool x44.shut]) (r_load4 rfl ek kk kk (sgS (later c41 hc50) (by simp)) (sgS (later c41 hc51) (by simp)) (sgS (later c41 hc52) (by simp)) (sgS (later c41 hc53) (by simp))) ?_
     refine W.sn (fun b => .pointer (some ⟨b, 0, none⟩)) #[.int .i64 0, .int .i64 0, .int .i64 0, .bool false] 40 s43 rfl kk rfl (fun _ => by kernel_rfl) (fun b54 w55 hb56 k57 x58 s59 => ?_)
     refine F.nx ?_
     have lo60 : w.heap.size ≤ b54 := Nat.le_trans ((SG.belowR c41 s43 (fun kq e => by cases e))).size (Nat.le_of_eq hb56)
     have nb63 : Nb b54 (.slice A0_8 n0_8 c0_8) := nb_hi ho0_8 (Nat.le_of_eq hb56)
     have ho64 := own_kept ho0_8 k57
     refine Fa (.int .i64 (i : Int)) ?_
     refine W.ss (v := .agg #[.int .i64 x44.id, .int .i64 x44.pipe, .int .i64 x44.node, .bool x44.shut]) (j := 0) (news := [.int .i64 x44.id, .int .i64 x44.pipe, .int .i64 x44.node, .bool x44.shut]) (cs' := #[.int .i64 x44.id, .int .i64 x44.pipe, .int .i64 x44.node, .bool x44.shut]) s59 rfl kk rfl rfl kk kk x58 kk kk (by simp) kk kk (.inr (Nat.le_trans (s43).size (Nat.le_of_eq hb56))) (fun w65 g66 x67 s68 => ?_)
     have ho69 := own_grown ho64 g66 (fun j e1 e2 => by cases e2; exact nb63 e1.symm)
     refine F.es ?_
     have x6 := SG.blk s68 x6 (Option.some_ne_none _)
     have c70 := (SG.belowR c41 s68 (fun kq e => by cases e))
     have rd71 := Rd.kept rd0_7 (SG.below s68)
     refine h9 _ _ ?_
     refine wk fun K10 h10 => ?_
     refine W.region_sch (row := none) (Sch.of [(0, false), (1, false), (2, false), (3, false), (4, false), (5, false), (6, false), (7, false), (8, false), (9, false), (12, false), (10, true), (11, true), (13, false), (14, false), (15, false)]) kk kk (fun _ d _ _ _ h => by cases d <;> exact h) kk (fun w72 e73 s74 => ?_)
     have ho75 := own_heap ho69 e73
     refine Fv (.pointer (some ⟨pb18, 0, none⟩)) ?_
     refine Fq (.pointer (some ⟨b54, 2, none⟩)) (r_field (k := 2) rfl ek kk) ?_
     refine Fl (.int .i64 x44.node) (sgS (blk_cell (j := 2) x67 kk) (Option.some_ne_none _)) ?_
     refine Fq (.pointer (some ⟨pb18, 0, none⟩)) (r_nilCheck rfl ek) ?_
     obtain ⟨kz, pz, ekz, hkz, hpz, hnz⟩ := hv9.place x44 (List.mem_of_getElem? hx45)
     have hgz := hg.at hpz
     obtain ⟨x76, hx77⟩ := get_of (zs := (wetL (linked ps (openQ vs false)) (9 + (findL ps a)))) (k := x44.node.toNat) (by have := hl20; omega)
     obtain ⟨hb78, hc79⟩ := Rd.elBool rd71 hx77
     refine Fq (.pointer (some ⟨pb18, x44.node.toNat, none⟩)) (r_idxA (len := 19) (k := x44.node.toNat) rfl ek (evk (z := x44.node) kk (by omega)) kk (by omega)) ?_
     refine Fl (.bool x76) (sgS hc79 (by simp)) ?_
     refine Fv (.pointer (some ⟨pb18, 0, none⟩)) ?_
     refine Fq (.agg #[.int .i64 m, .slice A n c]) (r_load2 rfl ek kk kk (sgS (blk_cell (j := 0) x6 kk) (Option.some_ne_none _)) (sgS (blk_cell (j := 1) x6 kk) (Option.some_ne_none _))) ?_
     refine Fq (.pointer (some ⟨b54, 1, none⟩)) (r_field (k := 1) rfl ek kk) ?_
     refine Fl (.int .i64 x44.pipe) (sgS (blk_cell (j := 1) x67 kk) (Option.some_ne_none _)) ?_
     refine Fq (.pointer (some ⟨pb18, 0, none⟩)) (r_nilCheck rfl ek) ?_
     refine Fc [.agg #[.int .i64 m, .slice A n c], .int .i64 x44.pipe] (pipeIndex_any m A n c ps x44.pipe _ (Rd.kept ha (SG.belowR c70 s74 (fun kq e => by cases e))) (by omega)) ?_
     rintro e w81 ⟨rfl, b80⟩
     have s82 := SG.of_below s74 b80
     refine ⟨_, rfl, s82, ?_⟩
     refine F.nx ?_
     have ho83 := own_kept ho75 b80
     refine Fc [.int .i64 (findL ps x44.pipe)] (element_any (findL ps x44.pipe) _ (by omega)) ?_
     rintro e w' ⟨rfl, rfl⟩
     refine ⟨_, rfl, s82, ?_⟩
     refine F.nx ?_
     obtain ⟨x86, hx87⟩ := get_of (zs := (wetL (linked ps (openQ vs false)) (9 + (findL ps a)))) (k := (9 + kz)) (by have := hl20; omega)
     obtain ⟨hb88, hc89⟩ := Rd.elBool rd71 hx87
     refine Fq (.pointer (some ⟨pb18, (9 + kz), none⟩)) (r_idxA (len := 19) (k := (9 + kz)) rfl ek (evk (z := 9 + (findL ps x44.pipe)) kk (by omega)) kk (by omega)) ?_
     refine Fl (.bool x86) (sgS hc89 (by simp)) ?_
     by_cases q90 : x76 = x86
     ·refine Fq (.bool false) (r_neqB (m := x76) (n := x86) rfl ek ek kk (by rw [(beq_iff_eq.2 q90)]; try rfl)) ?_
      refine F.es ?_
      have x6 := SG.blk s82 x6 (Option.some_ne_none _)
      have c91 := (SG.belowR c70 s82 (fun kq e => by cases e))
      have rd92 := Rd.kept rd71 (SG.below s82)
      refine h10 _ _ ?_
      refine wp_cond_false ek ?_
      refine wp_skip ?_
      refine h8 _ _ ?_
      refine W.region_quiet [(0, false), (1, false)] kk ?_
      refine Fq (.int .i64 ((i + 1 : Nat) : Int)) (r_add (m := (i : Int)) (n := 1) (z := ((i + 1 : Nat) : Int)) rfl ek ek (by omega) (by omega)) ?_
      refine Fv (.int .i64 ((i + 1 : Nat) : Int)) ?_
      refine F.es ?_
      exact h5 _ _ _ (by omega : (n2 - (i + 1)) < _) ⟨i + 1, A0_8, n0_8, c0_8, Kn.of, rfl, (by omega), (by omega), x6, (by rw [aroundI_no hx45 (by have h9 := wet_eqI (b := x44.node) hx77 (by omega); have h8 := wet_eqI (b := 9 + findL ps x44.pipe) hx87 (by omega); rw [← h9, ← h8]; exact q90)]; exact ho83), nb0_8_b2, rd92, sp0_7_8, c91⟩
     refine Fq (.bool true) (r_neqB (m := x76) (n := x86) rfl ek ek kk (by rw [(beq_eq_false_iff_ne.2 q90)]; try rfl)) ?_
     refine F.es ?_
     have x6 := SG.blk s82 x6 (Option.some_ne_none _)
     have c93 := (SG.belowR c70 s82 (fun kq e => by cases e))
     have rd94 := Rd.kept rd71 (SG.below s82)
     refine h10 _ _ ?_
     refine wp_cond_true ek ?_
     refine W.region_plain (row := (Value.ownBlock (.slice A0_8 n0_8 c0_8))) [(0, false), (1, false), (2, true), (3, true), (4, false)] kk ?_
     have s95 := SG.self w81 (Value.ownBlock (.slice A0_8 n0_8 c0_8))
     refine Fv (.slice A0_8 n0_8 c0_8) ?_
     refine Fv (.int .i64 (i : Int)) ?_
     refine W.sn (fun b => .slice (some ⟨b, 0, none⟩) 1 1) #[.int .i64 (i : Int)] 3 s95 rfl kk rfl (fun _ => by kernel_rfl) (fun b96 w97 hb98 k99 x100 s101 => ?_)
     refine F.nx ?_
     have lo102 : w.heap.size ≤ b96 := Nat.le_trans ((SG.belowR c93 s95 (fun kq e => (World.ownsRow.lt ho83 kq e).1))).size (Nat.le_of_eq hb98)
     have ho107 := own_kept ho83 k99
     refine W.sap (e := 3) (size := 1) (base := w.heap.size) (m := 1) (v := .slice A0_8 n0_8 c0_8) (c := 1) s101 rfl rfl rfl rfl kk kk kk ho107 x100 kk kk (by omega) (by omega) (by have := ((SG.belowR c93 s101 (fun kq e => (World.ownsRow.lt ho83 kq e).1))).size; omega) (.inl rfl) (fun g108 cap109 w110 ho111 hg112 hat113 hlt114 s115 => ?_)
     refine F.nx ?_
     have nb116 : Nb b2 (.slice (some ⟨g108, 0, none⟩) (n0_8 + 1) cap109) := nb_app nb0_8_b2 (Nat.lt_of_lt_of_le (blk_lt x6) (s101).size) hat113
     have ho111 := own_snoc ho111
     have sp119 := sp_app (v' := .slice (some ⟨g108, 0, none⟩) (n0_8 + 1) cap109) sp0_7_8 rd94 ((s101).size) (hat3 (v := .slice A0_8 n0_8 c0_8) hat113)
     refine Fa (.slice (some ⟨g108, 0, none⟩) (n0_8 + 1) cap109) ?_
     refine F.es ?_
     have x6 := SG.blk s115 x6 nb0_8_b2
     have c120 := (SG.belowR c93 s115 (fun kq e => (World.ownsRow.lt ho83 kq e).1))
     have rd121 := rd_sep rd94 s115 sp0_7_8
     refine h8 _ _ ?_
     refine W.region_quiet [(0, false), (1, false)] kk ?_
     refine Fq (.int .i64 ((i + 1 : Nat) : Int)) (r_add (m := (i : Int)) (n := 1) (z := ((i + 1 : Nat) : Int)) rfl ek ek (by omega) (by omega)) ?_
     refine Fv (.int .i64 ((i + 1 : Nat) : Int)) ?_
     refine F.es ?_
     exact h5 _ _ _ (by omega : (n2 - (i + 1)) < _) ⟨i + 1, (some ⟨g108, 0, none⟩), (n0_8 + 1), cap109, Kn.of, rfl, (by omega), (by omega), x6, (by rw [aroundI_yes hx45 (by have h9 := wet_eqI (b := x44.node) hx77 (by omega); have h8 := wet_eqI (b := 9 + findL ps x44.pipe) hx87 (by omega); rw [← h9, ← h8]; exact q90)]; exact ho111), nb116, rd121, sp119, c120⟩
    refine Fq (.bool false) (r_lss (m := (i : Int)) (n := (n2 : Int)) rfl ek ek (decide_eq_false q42)) ?_
    refine F.es ?_
    refine h6 _ _ ?_
    refine wk fun K11 h11 => ?_
    refine wp_cond_false ek ?_
    refine wp_exit ?_
    refine h3 _ _ ?_
    refine wk fun K12 h12 => ?_
    refine W.region_quiet [(0, false), (1, false)] kk ?_
    refine Fv (.slice A0_8 n0_8 c0_8) ?_
    refine Fa (.slice A0_8 n0_8 c0_8) ?_
    refine F.es ?_
    refine h12 _ _ ?_
    refine wp_ret ?_
    try simp only [Exit.then]
    refine ret1 (v := .slice A0_8 n0_8 c0_8) rfl kk ?_
    exact ⟨_, _, _, rfl, (by rw [show vs.length = i by omega]; exact ho0_8), c41⟩
   refine W.sn (fun b => .slice (some ⟨b, 0, none⟩) 0 0) #[] 3 s15 rfl kk rfl (fun _ => by kernel_rfl) (fun b122 w123 hb124 k125 x126 s127 => ?_)
   refine F.nx ?_
   have lo128 : w.heap.size ≤ b122 := Nat.le_trans ((SG.belowR c9 s15 (fun kq e => by cases e))).size (Nat.le_of_eq hb124)
   have ne129 : b2 ≠ b122 := Nat.ne_of_lt (Nat.lt_of_lt_of_eq (Nat.lt_of_lt_of_le (blk_lt x6) (s15).size) hb124)
   have lb135 := blk_lt x126
   refine Fc [.agg #[.int .i64 m, .slice A n c], .slice A2 n2 c2, .int .i64 (9 + (findL ps a))] (segmentOf_any m A n c ps A2 n2 c2 vs (9 + (findL ps a)) (9 + (findL ps a)).toNat _ (Rd.kept ha (SG.belowR c9 s127 (fun kq e => by cases e))) (Rd.kept hb (SG.belowR c9 s127 (fun kq e => by cases e))) (by omega) (by omega) hp (by omega) (by omega) (by omega) (by omega)) ?_
   rintro e w137 ⟨pb130, rfl, lo134, rd131, b136⟩
   have s138 := SG.of_below s127 b136
   refine ⟨_, rfl, s138, ?_⟩
   refine F.nx ?_
   have x126 := (b136.block _ (blk_lt x126)).trans x126
   have sp140 : Sp (some ⟨pb130, 0, none⟩) 19 (some b122) := sp_ptrB (Nat.lt_of_lt_of_le lb135 lo134)
   have hl132 := rd_bools_len rd131
   rw [wetL_len] at hl132
   have hl132 : (wetL (linked ps (openQ vs false)) (9 + (findL ps a))).length = 19 := wetL_len _ _
   refine Fa (.pointer (some ⟨pb130, 0, none⟩)) ?_
   refine Fa (.slice (some ⟨b122, 0, none⟩) 0 0) ?_
   refine F.es ?_
   have x6 := SG.blk s138 x6 (Option.some_ne_none _)
   have c141 := (SG.belowR c9 s138 (fun kq e => by cases e))
   refine h2 _ _ ?_
   refine wk fun K13 h13 => ?_
   refine wk fun K14 h14 => ?_
   refine W.region_quiet [(0, false), (1, false), (2, false)] kk ?_
   refine Fv (.slice A2 n2 c2) ?_
   refine Fq (.int .i64 (n2 : Int)) (r_len (A := A2) (n := n2) (c := c2) rfl ek kk) ?_
   refine Fv (.int .i64 0) ?_
   refine F.es ?_
   refine h14 _ _ ?_
   refine wp_block ?_
   have ho142 := own_empty (base := w.heap.size) (size := 1) x126 lo128
   replace ho142 : World.ownsRow _ _ _ _ _ _ (intsV []) := ho142
   have sp143 := sp_own (n' := 0) (c := 0) sp140
   have nb144 : Nb b2 (.slice (some ⟨b122, 0, none⟩) 0 0) := nb_new ne129
   refine loopK (fun am0 aa0 wl0 => ∃ (i : Nat) (A0_8 : Option Addr) (n0_8 : Nat) (c0_8 : Nat) , Kn aa0 [(0, .agg #[.int .i64 m, .slice A n c]), (1, .slice A2 n2 c2), (2, .int .i64 a), (3, .pointer (some ⟨b2, 0, none⟩)), (6, .slice none 0 0), (7, .pointer (some ⟨pb130, 0, none⟩)), (8, .slice A0_8 n0_8 c0_8), (19, .slice A2 n2 c2), (20, .int .i64 (n2 : Int)), (21, .int .i64 (i : Int))] 48 ∧ (am0 = n2 - i) ∧ (i ≤ n2) ∧ (n0_8 ≤ i) ∧ (wl0.heap[b2]? = some (.cells #[.int .i64 m, .slice A n c] 26 (0, 0))) ∧ (wl0.ownsRow w.heap.size 3 1 (.slice A0_8 n0_8 c0_8) n0_8 (intsV (aroundI ps vs (9 + findL ps a) i))) ∧ (Nb b2 (.slice A0_8 n0_8 c0_8)) ∧ (Rd wl0 1 (some ⟨pb130, 0, none⟩) 19 (boolsV (wetL (linked ps (openQ vs false)) (9 + (findL ps a))))) ∧ (Sp (some ⟨pb130, 0, none⟩) 19 (Value.ownBlock (.slice A0_8 n0_8 c0_8))) ∧ (Below w.heap.size w wl0)) (n2 - 0) ?_ ?_
   ·exact ⟨0, (some ⟨b122, 0, none⟩), 0, 0, Kn.of, rfl, (Nat.zero_le _), (Nat.zero_le _), x6, ho142, nb144, rd131, sp143, c141⟩
   rintro am0 aa0 wl0 K15 h15 ⟨i, A0_8, n0_8, c0_8, ⟨U0, rfl⟩, rfl, hi, hb8, x6, ho0_8, nb0_8_b2, rd0_7, sp0_7_8, c145⟩
   refine wk fun K16 h16 => ?_
   refine W.region_quiet [(0, false)] kk ?_
   by_cases q146 : ((i : Int) : Int) < ((n2 : Int) : Int)
   ·refine Fq (.bool true) (r_lss (m := (i : Int)) (n := (n2 : Int)) rfl ek ek (decide_eq_true q146)) ?_
    refine F.es ?_
    refine h16 _ _ ?_
    refine wk fun K17 h17 => ?_
    refine wp_cond_true ek ?_
    refine wp_skip ?_
    refine h17 _ _ ?_
    refine wk fun K18 h18 => ?_
    refine wp_block ?_
    refine wk fun K19 h19 => ?_
    refine W.region_plain (row := none) [(0, false), (1, false), (2, false), (3, true), (4, false), (5, true)] kk ?_
    have s147 := SG.self wl0 none
    refine Fv (.int .i64 (i : Int)) ?_
    obtain ⟨x148, hx149⟩ := get_of (zs := vs) (k := i) (by have := hl2; omega)
    obtain ⟨b150, o151, hA152, hb153, hc154, hc155, hc156, hc157⟩ := Rd.elValve hb hx149
    refine Fq (.pointer (some ⟨b150, o151 + i * 4, none⟩)) (r_idx (n := n2) (c := c2) (k := i) rfl ek hA152 kk kk (by have := hl2; omega)) ?_
    refine Fq (.agg #[.int .i64 x148.id, .int .i64 x148.pipe, .int .i64 x148.node, .bool x148.shut]) (r_load4 rfl ek kk kk (sgS (later c145 hc154) (by simp)) (sgS (later c145 hc155) (by simp)) (sgS (later c145 hc156) (by simp)) (sgS (later c145 hc157) (by simp))) ?_
    refine W.sn (fun b => .pointer (some ⟨b, 0, none⟩)) #[.int .i64 0, .int .i64 0, .int .i64 0, .bool false] 40 s147 rfl kk rfl (fun _ => by kernel_rfl) (fun b158 w159 hb160 k161 x162 s163 => ?_)
    refine F.nx ?_
    have lo164 : w.heap.size ≤ b158 := Nat.le_trans ((SG.belowR c145 s147 (fun kq e => by cases e))).size (Nat.le_of_eq hb160)
    have nb167 : Nb b158 (.slice A0_8 n0_8 c0_8) := nb_hi ho0_8 (Nat.le_of_eq hb160)
    have ho168 := own_kept ho0_8 k161
    refine Fa (.int .i64 (i : Int)) ?_
    refine W.ss (v := .agg #[.int .i64 x148.id, .int .i64 x148.pipe, .int .i64 x148.node, .bool x148.shut]) (j := 0) (news := [.int .i64 x148.id, .int .i64 x148.pipe, .int .i64 x148.node, .bool x148.shut]) (cs' := #[.int .i64 x148.id, .int .i64 x148.pipe, .int .i64 x148.node, .bool x148.shut]) s163 rfl kk rfl rfl kk kk x162 kk kk (by simp) kk kk (.inr (Nat.le_trans (s147).size (Nat.le_of_eq hb160))) (fun w169 g170 x171 s172 => ?_)
    have ho173 := own_grown ho168 g170 (fun j e1 e2 => by cases e2; exact nb167 e1.symm)
    refine F.es ?_
    have x6 := SG.blk s172 x6 (Option.some_ne_none _)
    have c174 := (SG.belowR c145 s172 (fun kq e => by cases e))
    have rd175 := Rd.kept rd0_7 (SG.below s172)
    refine h19 _ _ ?_
    refine wk fun K20 h20 => ?_
    refine W.region_sch (row := none) (Sch.of [(0, false), (1, false), (2, false), (3, false), (4, false), (5, false), (6, false), (7, false), (8, false), (9, false), (12, false), (10, true), (11, true), (13, false), (14, false), (15, false)]) kk kk (fun _ d _ _ _ h => by cases d <;> exact h) kk (fun w176 e177 s178 => ?_)
    have ho179 := own_heap ho173 e177
    refine Fv (.pointer (some ⟨pb130, 0, none⟩)) ?_
    refine Fq (.pointer (some ⟨b158, 2, none⟩)) (r_field (k := 2) rfl ek kk) ?_
    refine Fl (.int .i64 x148.node) (sgS (blk_cell (j := 2) x171 kk) (Option.some_ne_none _)) ?_
    refine Fq (.pointer (some ⟨pb130, 0, none⟩)) (r_nilCheck rfl ek) ?_
    obtain ⟨kz, pz, ekz, hkz, hpz, hnz⟩ := hv9.place x148 (List.mem_of_getElem? hx149)
    have hgz := hg.at hpz
    obtain ⟨x180, hx181⟩ := get_of (zs := (wetL (linked ps (openQ vs false)) (9 + (findL ps a)))) (k := x148.node.toNat) (by have := hl132; omega)
    obtain ⟨hb182, hc183⟩ := Rd.elBool rd175 hx181
    refine Fq (.pointer (some ⟨pb130, x148.node.toNat, none⟩)) (r_idxA (len := 19) (k := x148.node.toNat) rfl ek (evk (z := x148.node) kk (by omega)) kk (by omega)) ?_
    refine Fl (.bool x180) (sgS hc183 (by simp)) ?_
    refine Fv (.pointer (some ⟨pb130, 0, none⟩)) ?_
    refine Fq (.agg #[.int .i64 m, .slice A n c]) (r_load2 rfl ek kk kk (sgS (blk_cell (j := 0) x6 kk) (Option.some_ne_none _)) (sgS (blk_cell (j := 1) x6 kk) (Option.some_ne_none _))) ?_
    refine Fq (.pointer (some ⟨b158, 1, none⟩)) (r_field (k := 1) rfl ek kk) ?_
    refine Fl (.int .i64 x148.pipe) (sgS (blk_cell (j := 1) x171 kk) (Option.some_ne_none _)) ?_
    refine Fq (.pointer (some ⟨pb130, 0, none⟩)) (r_nilCheck rfl ek) ?_
    refine Fc [.agg #[.int .i64 m, .slice A n c], .int .i64 x148.pipe] (pipeIndex_any m A n c ps x148.pipe _ (Rd.kept ha (SG.belowR c174 s178 (fun kq e => by cases e))) (by omega)) ?_
    rintro e w185 ⟨rfl, b184⟩
    have s186 := SG.of_below s178 b184
    refine ⟨_, rfl, s186, ?_⟩
    refine F.nx ?_
    have ho187 := own_kept ho179 b184
    refine Fc [.int .i64 (findL ps x148.pipe)] (element_any (findL ps x148.pipe) _ (by omega)) ?_
    rintro e w' ⟨rfl, rfl⟩
    refine ⟨_, rfl, s186, ?_⟩
    refine F.nx ?_
    obtain ⟨x190, hx191⟩ := get_of (zs := (wetL (linked ps (openQ vs false)) (9 + (findL ps a)))) (k := (9 + kz)) (by have := hl132; omega)
    obtain ⟨hb192, hc193⟩ := Rd.elBool rd175 hx191
    refine Fq (.pointer (some ⟨pb130, (9 + kz), none⟩)) (r_idxA (len := 19) (k := (9 + kz)) rfl ek (evk (z := 9 + (findL ps x148.pipe)) kk (by omega)) kk (by omega)) ?_
    refine Fl (.bool x190) (sgS hc193 (by simp)) ?_
    by_cases q194 : x180 = x190
    ·refine Fq (.bool false) (r_neqB (m := x180) (n := x190) rfl ek ek kk (by rw [(beq_iff_eq.2 q194)]; try rfl)) ?_
     refine F.es ?_
     have x6 := SG.blk s186 x6 (Option.some_ne_none _)
     have c195 := (SG.belowR c174 s186 (fun kq e => by cases e))
     have rd196 := Rd.kept rd175 (SG.below s186)
     refine h20 _ _ ?_
     refine wp_cond_false ek ?_
     refine wp_skip ?_
     refine h18 _ _ ?_
     refine W.region_quiet [(0, false), (1, false)] kk ?_
     refine Fq (.int .i64 ((i + 1 : Nat) : Int)) (r_add (m := (i : Int)) (n := 1) (z := ((i + 1 : Nat) : Int)) rfl ek ek (by omega) (by omega)) ?_
     refine Fv (.int .i64 ((i + 1 : Nat) : Int)) ?_
     refine F.es ?_
     exact h15 _ _ _ (by omega : (n2 - (i + 1)) < _) ⟨i + 1, A0_8, n0_8, c0_8, Kn.of, rfl, (by omega), (by omega), x6, (by rw [aroundI_no hx149 (by have h9 := wet_eqI (b := x148.node) hx181 (by omega); have h8 := wet_eqI (b := 9 + findL ps x148.pipe) hx191 (by omega); rw [← h9, ← h8]; exact q194)]; exact ho187), nb0_8_b2, rd196, sp0_7_8, c195⟩
    refine Fq (.bool true) (r_neqB (m := x180) (n := x190) rfl ek ek kk (by rw [(beq_eq_false_iff_ne.2 q194)]; try rfl)) ?_
    refine F.es ?_
    have x6 := SG.blk s186 x6 (Option.some_ne_none _)
    have c197 := (SG.belowR c174 s186 (fun kq e => by cases e))
    have rd198 := Rd.kept rd175 (SG.below s186)
    refine h20 _ _ ?_
    refine wp_cond_true ek ?_
    refine W.region_plain (row := (Value.ownBlock (.slice A0_8 n0_8 c0_8))) [(0, false), (1, false), (2, true), (3, true), (4, false)] kk ?_
    have s199 := SG.self w185 (Value.ownBlock (.slice A0_8 n0_8 c0_8))
    refine Fv (.slice A0_8 n0_8 c0_8) ?_
    refine Fv (.int .i64 (i : Int)) ?_
    refine W.sn (fun b => .slice (some ⟨b, 0, none⟩) 1 1) #[.int .i64 (i : Int)] 3 s199 rfl kk rfl (fun _ => by kernel_rfl) (fun b200 w201 hb202 k203 x204 s205 => ?_)
    refine F.nx ?_
    have lo206 : w.heap.size ≤ b200 := Nat.le_trans ((SG.belowR c197 s199 (fun kq e => (World.ownsRow.lt ho187 kq e).1))).size (Nat.le_of_eq hb202)
    have ho211 := own_kept ho187 k203
    refine W.sap (e := 3) (size := 1) (base := w.heap.size) (m := 1) (v := .slice A0_8 n0_8 c0_8) (c := 1) s205 rfl rfl rfl rfl kk kk kk ho211 x204 kk kk (by omega) (by omega) (by have := ((SG.belowR c197 s205 (fun kq e => (World.ownsRow.lt ho187 kq e).1))).size; omega) (.inl rfl) (fun g212 cap213 w214 ho215 hg216 hat217 hlt218 s219 => ?_)
    refine F.nx ?_
    have nb220 : Nb b2 (.slice (some ⟨g212, 0, none⟩) (n0_8 + 1) cap213) := nb_app nb0_8_b2 (Nat.lt_of_lt_of_le (blk_lt x6) (s205).size) hat217
    have ho215 := own_snoc ho215
    have sp223 := sp_app (v' := .slice (some ⟨g212, 0, none⟩) (n0_8 + 1) cap213) sp0_7_8 rd198 ((s205).size) (hat3 (v := .slice A0_8 n0_8 c0_8) hat217)
    refine Fa (.slice (some ⟨g212, 0, none⟩) (n0_8 + 1) cap213) ?_
    refine F.es ?_
    have x6 := SG.blk s219 x6 nb0_8_b2
    have c224 := (SG.belowR c197 s219 (fun kq e => (World.ownsRow.lt ho187 kq e).1))
    have rd225 := rd_sep rd198 s219 sp0_7_8
    refine h18 _ _ ?_
    refine W.region_quiet [(0, false), (1, false)] kk ?_
    refine Fq (.int .i64 ((i + 1 : Nat) : Int)) (r_add (m := (i : Int)) (n := 1) (z := ((i + 1 : Nat) : Int)) rfl ek ek (by omega) (by omega)) ?_
    refine Fv (.int .i64 ((i + 1 : Nat) : Int)) ?_
    refine F.es ?_
    exact h15 _ _ _ (by omega : (n2 - (i + 1)) < _) ⟨i + 1, (some ⟨g212, 0, none⟩), (n0_8 + 1), cap213, Kn.of, rfl, (by omega), (by omega), x6, (by rw [aroundI_yes hx149 (by have h9 := wet_eqI (b := x148.node) hx181 (by omega); have h8 := wet_eqI (b := 9 + findL ps x148.pipe) hx191 (by omega); rw [← h9, ← h8]; exact q194)]; exact ho215), nb220, rd225, sp223, c224⟩
   refine Fq (.bool false) (r_lss (m := (i : Int)) (n := (n2 : Int)) rfl ek ek (decide_eq_false q146)) ?_
   refine F.es ?_
   refine h16 _ _ ?_
   refine wk fun K21 h21 => ?_
   refine wp_cond_false ek ?_
   refine wp_exit ?_
   refine h13 _ _ ?_
   refine wk fun K22 h22 => ?_
   refine W.region_quiet [(0, false), (1, false)] kk ?_
   refine Fv (.slice A0_8 n0_8 c0_8) ?_
   refine Fa (.slice A0_8 n0_8 c0_8) ?_
   refine F.es ?_
   refine h22 _ _ ?_
   refine wp_ret ?_
   try simp only [Exit.then]
   refine ret1 (v := .slice A0_8 n0_8 c0_8) rfl kk ?_
   exact ⟨_, _, _, rfl, (by rw [show vs.length = i by omega]; exact ho0_8), c145⟩
  refine W.sn (fun b => .slice (some ⟨b, 0, none⟩) 0 0) #[] 3 s15 rfl kk rfl (fun _ => by kernel_rfl) (fun b226 w227 hb228 k229 x230 s231 => ?_)
  refine F.nx ?_
  have lo232 : w.heap.size ≤ b226 := Nat.le_trans ((SG.belowR c9 s15 (fun kq e => by cases e))).size (Nat.le_of_eq hb228)
  have ne233 : b2 ≠ b226 := Nat.ne_of_lt (Nat.lt_of_lt_of_eq (Nat.lt_of_lt_of_le (blk_lt x6) (s15).size) hb228)
  refine Fc [.int .i64 (findL ps a)] (element_any (findL ps a) _ (by omega)) ?_
  rintro e w' ⟨rfl, rfl⟩
  refine ⟨_, rfl, s231, ?_⟩
  refine F.nx ?_
  have lb241 := blk_lt x230
  refine Fc [.agg #[.int .i64 m, .slice A n c], .slice A2 n2 c2, .int .i64 (9 + (findL ps a))] (segmentOf_any m A n c ps A2 n2 c2 vs (9 + (findL ps a)) (9 + (findL ps a)).toNat _ (Rd.kept ha (SG.belowR c9 s231 (fun kq e => by cases e))) (Rd.kept hb (SG.belowR c9 s231 (fun kq e => by cases e))) (by omega) (by omega) hp (by omega) (by omega) (by omega) (by omega)) ?_
  rintro e w243 ⟨pb236, rfl, lo240, rd237, b242⟩
  have s244 := SG.of_below s231 b242
  refine ⟨_, rfl, s244, ?_⟩
  refine F.nx ?_
  have x230 := (b242.block _ (blk_lt x230)).trans x230
  have sp246 : Sp (some ⟨pb236, 0, none⟩) 19 (some b226) := sp_ptrB (Nat.lt_of_lt_of_le lb241 lo240)
  have hl238 := rd_bools_len rd237
  rw [wetL_len] at hl238
  have hl238 : (wetL (linked ps (openQ vs false)) (9 + (findL ps a))).length = 19 := wetL_len _ _
  refine Fa (.pointer (some ⟨pb236, 0, none⟩)) ?_
  refine Fa (.slice (some ⟨b226, 0, none⟩) 0 0) ?_
  refine F.es ?_
  have x6 := SG.blk s244 x6 (Option.some_ne_none _)
  have c247 := (SG.belowR c9 s244 (fun kq e => by cases e))
  refine h2 _ _ ?_
  refine wk fun K23 h23 => ?_
  refine wk fun K24 h24 => ?_
  refine W.region_quiet [(0, false), (1, false), (2, false)] kk ?_
  refine Fv (.slice A2 n2 c2) ?_
  refine Fq (.int .i64 (n2 : Int)) (r_len (A := A2) (n := n2) (c := c2) rfl ek kk) ?_
  refine Fv (.int .i64 0) ?_
  refine F.es ?_
  refine h24 _ _ ?_
  refine wp_block ?_
  have ho248 := own_empty (base := w.heap.size) (size := 1) x230 lo232
  replace ho248 : World.ownsRow _ _ _ _ _ _ (intsV []) := ho248
  have sp249 := sp_own (n' := 0) (c := 0) sp246
  have nb250 : Nb b2 (.slice (some ⟨b226, 0, none⟩) 0 0) := nb_new ne233
  refine loopK (fun am0 aa0 wl0 => ∃ (i : Nat) (A0_8 : Option Addr) (n0_8 : Nat) (c0_8 : Nat) , Kn aa0 [(0, .agg #[.int .i64 m, .slice A n c]), (1, .slice A2 n2 c2), (2, .int .i64 a), (3, .pointer (some ⟨b2, 0, none⟩)), (6, .slice none 0 0), (7, .pointer (some ⟨pb236, 0, none⟩)), (8, .slice A0_8 n0_8 c0_8), (19, .slice A2 n2 c2), (20, .int .i64 (n2 : Int)), (21, .int .i64 (i : Int))] 48 ∧ (am0 = n2 - i) ∧ (i ≤ n2) ∧ (n0_8 ≤ i) ∧ (wl0.heap[b2]? = some (.cells #[.int .i64 m, .slice A n c] 26 (0, 0))) ∧ (wl0.ownsRow w.heap.size 3 1 (.slice A0_8 n0_8 c0_8) n0_8 (intsV (aroundI ps vs (9 + findL ps a) i))) ∧ (Nb b2 (.slice A0_8 n0_8 c0_8)) ∧ (Rd wl0 1 (some ⟨pb236, 0, none⟩) 19 (boolsV (wetL (linked ps (openQ vs false)) (9 + (findL ps a))))) ∧ (Sp (some ⟨pb236, 0, none⟩) 19 (Value.ownBlock (.slice A0_8 n0_8 c0_8))) ∧ (Below w.heap.size w wl0)) (n2 - 0) ?_ ?_
  ·exact ⟨0, (some ⟨b226, 0, none⟩), 0, 0, Kn.of, rfl, (Nat.zero_le _), (Nat.zero_le _), x6, ho248, nb250, rd237, sp249, c247⟩
  rintro am0 aa0 wl0 K25 h25 ⟨i, A0_8, n0_8, c0_8, ⟨U0, rfl⟩, rfl, hi, hb8, x6, ho0_8, nb0_8_b2, rd0_7, sp0_7_8, c251⟩
  refine wk fun K26 h26 => ?_
  refine W.region_quiet [(0, false)] kk ?_
  by_cases q252 : ((i : Int) : Int) < ((n2 : Int) : Int)
  ·refine Fq (.bool true) (r_lss (m := (i : Int)) (n := (n2 : Int)) rfl ek ek (decide_eq_true q252)) ?_
   refine F.es ?_
   refine h26 _ _ ?_
   refine wk fun K27 h27 => ?_
   refine wp_cond_true ek ?_
   refine wp_skip ?_
   refine h27 _ _ ?_
   refine wk fun K28 h28 => ?_
   refine wp_block ?_
   refine wk fun K29 h29 => ?_
   refine W.region_plain (row := none) [(0, false), (1, false), (2, false), (3, true), (4, false), (5, true)] kk ?_
   have s253 := SG.self wl0 none
   refine Fv (.int .i64 (i : Int)) ?_
   obtain ⟨x254, hx255⟩ := get_of (zs := vs) (k := i) (by have := hl2; omega)
   obtain ⟨b256, o257, hA258, hb259, hc260, hc261, hc262, hc263⟩ := Rd.elValve hb hx255
   refine Fq (.pointer (some ⟨b256, o257 + i * 4, none⟩)) (r_idx (n := n2) (c := c2) (k := i) rfl ek hA258 kk kk (by have := hl2; omega)) ?_
   refine Fq (.agg #[.int .i64 x254.id, .int .i64 x254.pipe, .int .i64 x254.node, .bool x254.shut]) (r_load4 rfl ek kk kk (sgS (later c251 hc260) (by simp)) (sgS (later c251 hc261) (by simp)) (sgS (later c251 hc262) (by simp)) (sgS (later c251 hc263) (by simp))) ?_
   refine W.sn (fun b => .pointer (some ⟨b, 0, none⟩)) #[.int .i64 0, .int .i64 0, .int .i64 0, .bool false] 40 s253 rfl kk rfl (fun _ => by kernel_rfl) (fun b264 w265 hb266 k267 x268 s269 => ?_)
   refine F.nx ?_
   have lo270 : w.heap.size ≤ b264 := Nat.le_trans ((SG.belowR c251 s253 (fun kq e => by cases e))).size (Nat.le_of_eq hb266)
   have nb273 : Nb b264 (.slice A0_8 n0_8 c0_8) := nb_hi ho0_8 (Nat.le_of_eq hb266)
   have ho274 := own_kept ho0_8 k267
   refine Fa (.int .i64 (i : Int)) ?_
   refine W.ss (v := .agg #[.int .i64 x254.id, .int .i64 x254.pipe, .int .i64 x254.node, .bool x254.shut]) (j := 0) (news := [.int .i64 x254.id, .int .i64 x254.pipe, .int .i64 x254.node, .bool x254.shut]) (cs' := #[.int .i64 x254.id, .int .i64 x254.pipe, .int .i64 x254.node, .bool x254.shut]) s269 rfl kk rfl rfl kk kk x268 kk kk (by simp) kk kk (.inr (Nat.le_trans (s253).size (Nat.le_of_eq hb266))) (fun w275 g276 x277 s278 => ?_)
   have ho279 := own_grown ho274 g276 (fun j e1 e2 => by cases e2; exact nb273 e1.symm)
   refine F.es ?_
   have x6 := SG.blk s278 x6 (Option.some_ne_none _)
   have c280 := (SG.belowR c251 s278 (fun kq e => by cases e))
   have rd281 := Rd.kept rd0_7 (SG.below s278)
   refine h29 _ _ ?_
   refine wk fun K30 h30 => ?_
   refine W.region_sch (row := none) (Sch.of [(0, false), (1, false), (2, false), (3, false), (4, false), (5, false), (6, false), (7, false), (8, false), (9, false), (12, false), (10, true), (11, true), (13, false), (14, false), (15, false)]) kk kk (fun _ d _ _ _ h => by cases d <;> exact h) kk (fun w282 e283 s284 => ?_)
   have ho285 := own_heap ho279 e283
   refine Fv (.pointer (some ⟨pb236, 0, none⟩)) ?_
   refine Fq (.pointer (some ⟨b264, 2, none⟩)) (r_field (k := 2) rfl ek kk) ?_
   refine Fl (.int .i64 x254.node) (sgS (blk_cell (j := 2) x277 kk) (Option.some_ne_none _)) ?_
   refine Fq (.pointer (some ⟨pb236, 0, none⟩)) (r_nilCheck rfl ek) ?_
   obtain ⟨kz, pz, ekz, hkz, hpz, hnz⟩ := hv9.place x254 (List.mem_of_getElem? hx255)
   have hgz := hg.at hpz
   obtain ⟨x286, hx287⟩ := get_of (zs := (wetL (linked ps (openQ vs false)) (9 + (findL ps a)))) (k := x254.node.toNat) (by have := hl238; omega)
   obtain ⟨hb288, hc289⟩ := Rd.elBool rd281 hx287
   refine Fq (.pointer (some ⟨pb236, x254.node.toNat, none⟩)) (r_idxA (len := 19) (k := x254.node.toNat) rfl ek (evk (z := x254.node) kk (by omega)) kk (by omega)) ?_
   refine Fl (.bool x286) (sgS hc289 (by simp)) ?_
   refine Fv (.pointer (some ⟨pb236, 0, none⟩)) ?_
   refine Fq (.agg #[.int .i64 m, .slice A n c]) (r_load2 rfl ek kk kk (sgS (blk_cell (j := 0) x6 kk) (Option.some_ne_none _)) (sgS (blk_cell (j := 1) x6 kk) (Option.some_ne_none _))) ?_
   refine Fq (.pointer (some ⟨b264, 1, none⟩)) (r_field (k := 1) rfl ek kk) ?_
   refine Fl (.int .i64 x254.pipe) (sgS (blk_cell (j := 1) x277 kk) (Option.some_ne_none _)) ?_
   refine Fq (.pointer (some ⟨pb236, 0, none⟩)) (r_nilCheck rfl ek) ?_
   refine Fc [.agg #[.int .i64 m, .slice A n c], .int .i64 x254.pipe] (pipeIndex_any m A n c ps x254.pipe _ (Rd.kept ha (SG.belowR c280 s284 (fun kq e => by cases e))) (by omega)) ?_
   rintro e w291 ⟨rfl, b290⟩
   have s292 := SG.of_below s284 b290
   refine ⟨_, rfl, s292, ?_⟩
   refine F.nx ?_
   have ho293 := own_kept ho285 b290
   refine Fc [.int .i64 (findL ps x254.pipe)] (element_any (findL ps x254.pipe) _ (by omega)) ?_
   rintro e w' ⟨rfl, rfl⟩
   refine ⟨_, rfl, s292, ?_⟩
   refine F.nx ?_
   obtain ⟨x296, hx297⟩ := get_of (zs := (wetL (linked ps (openQ vs false)) (9 + (findL ps a)))) (k := (9 + kz)) (by have := hl238; omega)
   obtain ⟨hb298, hc299⟩ := Rd.elBool rd281 hx297
   refine Fq (.pointer (some ⟨pb236, (9 + kz), none⟩)) (r_idxA (len := 19) (k := (9 + kz)) rfl ek (evk (z := 9 + (findL ps x254.pipe)) kk (by omega)) kk (by omega)) ?_
   refine Fl (.bool x296) (sgS hc299 (by simp)) ?_
   by_cases q300 : x286 = x296
   ·refine Fq (.bool false) (r_neqB (m := x286) (n := x296) rfl ek ek kk (by rw [(beq_iff_eq.2 q300)]; try rfl)) ?_
    refine F.es ?_
    have x6 := SG.blk s292 x6 (Option.some_ne_none _)
    have c301 := (SG.belowR c280 s292 (fun kq e => by cases e))
    have rd302 := Rd.kept rd281 (SG.below s292)
    refine h30 _ _ ?_
    refine wp_cond_false ek ?_
    refine wp_skip ?_
    refine h28 _ _ ?_
    refine W.region_quiet [(0, false), (1, false)] kk ?_
    refine Fq (.int .i64 ((i + 1 : Nat) : Int)) (r_add (m := (i : Int)) (n := 1) (z := ((i + 1 : Nat) : Int)) rfl ek ek (by omega) (by omega)) ?_
    refine Fv (.int .i64 ((i + 1 : Nat) : Int)) ?_
    refine F.es ?_
    exact h25 _ _ _ (by omega : (n2 - (i + 1)) < _) ⟨i + 1, A0_8, n0_8, c0_8, Kn.of, rfl, (by omega), (by omega), x6, (by rw [aroundI_no hx255 (by have h9 := wet_eqI (b := x254.node) hx287 (by omega); have h8 := wet_eqI (b := 9 + findL ps x254.pipe) hx297 (by omega); rw [← h9, ← h8]; exact q300)]; exact ho293), nb0_8_b2, rd302, sp0_7_8, c301⟩
   refine Fq (.bool true) (r_neqB (m := x286) (n := x296) rfl ek ek kk (by rw [(beq_eq_false_iff_ne.2 q300)]; try rfl)) ?_
   refine F.es ?_
   have x6 := SG.blk s292 x6 (Option.some_ne_none _)
   have c303 := (SG.belowR c280 s292 (fun kq e => by cases e))
   have rd304 := Rd.kept rd281 (SG.below s292)
   refine h30 _ _ ?_
   refine wp_cond_true ek ?_
   refine W.region_plain (row := (Value.ownBlock (.slice A0_8 n0_8 c0_8))) [(0, false), (1, false), (2, true), (3, true), (4, false)] kk ?_
   have s305 := SG.self w291 (Value.ownBlock (.slice A0_8 n0_8 c0_8))
   refine Fv (.slice A0_8 n0_8 c0_8) ?_
   refine Fv (.int .i64 (i : Int)) ?_
   refine W.sn (fun b => .slice (some ⟨b, 0, none⟩) 1 1) #[.int .i64 (i : Int)] 3 s305 rfl kk rfl (fun _ => by kernel_rfl) (fun b306 w307 hb308 k309 x310 s311 => ?_)
   refine F.nx ?_
   have lo312 : w.heap.size ≤ b306 := Nat.le_trans ((SG.belowR c303 s305 (fun kq e => (World.ownsRow.lt ho293 kq e).1))).size (Nat.le_of_eq hb308)
   have ho317 := own_kept ho293 k309
   refine W.sap (e := 3) (size := 1) (base := w.heap.size) (m := 1) (v := .slice A0_8 n0_8 c0_8) (c := 1) s311 rfl rfl rfl rfl kk kk kk ho317 x310 kk kk (by omega) (by omega) (by have := ((SG.belowR c303 s311 (fun kq e => (World.ownsRow.lt ho293 kq e).1))).size; omega) (.inl rfl) (fun g318 cap319 w320 ho321 hg322 hat323 hlt324 s325 => ?_)
   refine F.nx ?_
   have nb326 : Nb b2 (.slice (some ⟨g318, 0, none⟩) (n0_8 + 1) cap319) := nb_app nb0_8_b2 (Nat.lt_of_lt_of_le (blk_lt x6) (s311).size) hat323
   have ho321 := own_snoc ho321
   have sp329 := sp_app (v' := .slice (some ⟨g318, 0, none⟩) (n0_8 + 1) cap319) sp0_7_8 rd304 ((s311).size) (hat3 (v := .slice A0_8 n0_8 c0_8) hat323)
   refine Fa (.slice (some ⟨g318, 0, none⟩) (n0_8 + 1) cap319) ?_
   refine F.es ?_
   have x6 := SG.blk s325 x6 nb0_8_b2
   have c330 := (SG.belowR c303 s325 (fun kq e => (World.ownsRow.lt ho293 kq e).1))
   have rd331 := rd_sep rd304 s325 sp0_7_8
   refine h28 _ _ ?_
   refine W.region_quiet [(0, false), (1, false)] kk ?_
   refine Fq (.int .i64 ((i + 1 : Nat) : Int)) (r_add (m := (i : Int)) (n := 1) (z := ((i + 1 : Nat) : Int)) rfl ek ek (by omega) (by omega)) ?_
   refine Fv (.int .i64 ((i + 1 : Nat) : Int)) ?_
   refine F.es ?_
   exact h25 _ _ _ (by omega : (n2 - (i + 1)) < _) ⟨i + 1, (some ⟨g318, 0, none⟩), (n0_8 + 1), cap319, Kn.of, rfl, (by omega), (by omega), x6, (by rw [aroundI_yes hx255 (by have h9 := wet_eqI (b := x254.node) hx287 (by omega); have h8 := wet_eqI (b := 9 + findL ps x254.pipe) hx297 (by omega); rw [← h9, ← h8]; exact q300)]; exact ho321), nb326, rd331, sp329, c330⟩
  refine Fq (.bool false) (r_lss (m := (i : Int)) (n := (n2 : Int)) rfl ek ek (decide_eq_false q252)) ?_
  refine F.es ?_
  refine h26 _ _ ?_
  refine wk fun K31 h31 => ?_
  refine wp_cond_false ek ?_
  refine wp_exit ?_
  refine h23 _ _ ?_
  refine wk fun K32 h32 => ?_
  refine W.region_quiet [(0, false), (1, false)] kk ?_
  refine Fv (.slice A0_8 n0_8 c0_8) ?_
  refine Fa (.slice A0_8 n0_8 c0_8) ?_
  refine F.es ?_
  refine h32 _ _ ?_
  refine wp_ret ?_
  try simp only [Exit.then]
  refine ret1 (v := .slice A0_8 n0_8 c0_8) rfl kk ?_
  exact ⟨_, _, _, rfl, (by rw [show vs.length = i by omega]; exact ho0_8), c251⟩
 refine W.sn (fun b => .slice (some ⟨b, 0, none⟩) 0 0) #[] 3 s12 rfl kk rfl (fun _ => by kernel_rfl) (fun b332 w333 hb334 k335 x336 s337 => ?_)
 refine F.nx ?_
 have lo338 : w.heap.size ≤ b332 := Nat.le_trans ((SG.belowR c9 s12 (fun kq e => by cases e))).size (Nat.le_of_eq hb334)
 have ne339 : b2 ≠ b332 := Nat.ne_of_lt (Nat.lt_of_lt_of_eq (Nat.lt_of_lt_of_le (blk_lt x6) (s12).size) hb334)
 refine Fc [.agg #[.int .i64 m, .slice A n c], .int .i64 a] (pipeIndex_any m A n c ps a _ (Rd.kept ha (SG.belowR c9 s337 (fun kq e => by cases e))) (by omega)) ?_
 rintro e w341 ⟨rfl, b340⟩
 have s342 := SG.of_below s337 b340
 refine ⟨_, rfl, s342, ?_⟩
 refine F.nx ?_
 have x336 := (b340.block _ (blk_lt x336)).trans x336
 refine Fc [.int .i64 (findL ps a)] (element_any (findL ps a) _ (by omega)) ?_
 rintro e w' ⟨rfl, rfl⟩
 refine ⟨_, rfl, s342, ?_⟩
 refine F.nx ?_
 have lb350 := blk_lt x336
 refine Fc [.agg #[.int .i64 m, .slice A n c], .slice A2 n2 c2, .int .i64 (9 + (findL ps a))] (segmentOf_any m A n c ps A2 n2 c2 vs (9 + (findL ps a)) (9 + (findL ps a)).toNat _ (Rd.kept ha (SG.belowR c9 s342 (fun kq e => by cases e))) (Rd.kept hb (SG.belowR c9 s342 (fun kq e => by cases e))) (by omega) (by omega) hp (by omega) (by omega) (by omega) (by omega)) ?_
 rintro e w352 ⟨pb345, rfl, lo349, rd346, b351⟩
 have s353 := SG.of_below s342 b351
 refine ⟨_, rfl, s353, ?_⟩
 refine F.nx ?_
 have x336 := (b351.block _ (blk_lt x336)).trans x336
 have sp355 : Sp (some ⟨pb345, 0, none⟩) 19 (some b332) := sp_ptrB (Nat.lt_of_lt_of_le lb350 lo349)
 have hl347 := rd_bools_len rd346
 rw [wetL_len] at hl347
 have hl347 : (wetL (linked ps (openQ vs false)) (9 + (findL ps a))).length = 19 := wetL_len _ _
 refine Fa (.pointer (some ⟨pb345, 0, none⟩)) ?_
 refine Fa (.slice (some ⟨b332, 0, none⟩) 0 0) ?_
 refine F.es ?_
 have x6 := SG.blk s353 x6 (Option.some_ne_none _)
 have c356 := (SG.belowR c9 s353 (fun kq e => by cases e))
 refine h2 _ _ ?_
 refine wk fun K33 h33 => ?_
 refine wk fun K34 h34 => ?_
 refine W.region_quiet [(0, false), (1, false), (2, false)] kk ?_
 refine Fv (.slice A2 n2 c2) ?_
 refine Fq (.int .i64 (n2 : Int)) (r_len (A := A2) (n := n2) (c := c2) rfl ek kk) ?_
 refine Fv (.int .i64 0) ?_
 refine F.es ?_
 refine h34 _ _ ?_
 refine wp_block ?_
 have ho357 := own_empty (base := w.heap.size) (size := 1) x336 lo338
 replace ho357 : World.ownsRow _ _ _ _ _ _ (intsV []) := ho357
 have sp358 := sp_own (n' := 0) (c := 0) sp355
 have nb359 : Nb b2 (.slice (some ⟨b332, 0, none⟩) 0 0) := nb_new ne339
 refine loopK (fun am0 aa0 wl0 => ∃ (i : Nat) (A0_8 : Option Addr) (n0_8 : Nat) (c0_8 : Nat) , Kn aa0 [(0, .agg #[.int .i64 m, .slice A n c]), (1, .slice A2 n2 c2), (2, .int .i64 a), (3, .pointer (some ⟨b2, 0, none⟩)), (6, .slice none 0 0), (7, .pointer (some ⟨pb345, 0, none⟩)), (8, .slice A0_8 n0_8 c0_8), (19, .slice A2 n2 c2), (20, .int .i64 (n2 : Int)), (21, .int .i64 (i : Int))] 48 ∧ (am0 = n2 - i) ∧ (i ≤ n2) ∧ (n0_8 ≤ i) ∧ (wl0.heap[b2]? = some (.cells #[.int .i64 m, .slice A n c] 26 (0, 0))) ∧ (wl0.ownsRow w.heap.size 3 1 (.slice A0_8 n0_8 c0_8) n0_8 (intsV (aroundI ps vs (9 + findL ps a) i))) ∧ (Nb b2 (.slice A0_8 n0_8 c0_8)) ∧ (Rd wl0 1 (some ⟨pb345, 0, none⟩) 19 (boolsV (wetL (linked ps (openQ vs false)) (9 + (findL ps a))))) ∧ (Sp (some ⟨pb345, 0, none⟩) 19 (Value.ownBlock (.slice A0_8 n0_8 c0_8))) ∧ (Below w.heap.size w wl0)) (n2 - 0) ?_ ?_
 ·exact ⟨0, (some ⟨b332, 0, none⟩), 0, 0, Kn.of, rfl, (Nat.zero_le _), (Nat.zero_le _), x6, ho357, nb359, rd346, sp358, c356⟩
 rintro am0 aa0 wl0 K35 h35 ⟨i, A0_8, n0_8, c0_8, ⟨U0, rfl⟩, rfl, hi, hb8, x6, ho0_8, nb0_8_b2, rd0_7, sp0_7_8, c360⟩
 refine wk fun K36 h36 => ?_
 refine W.region_quiet [(0, false)] kk ?_
 by_cases q361 : ((i : Int) : Int) < ((n2 : Int) : Int)
 ·refine Fq (.bool true) (r_lss (m := (i : Int)) (n := (n2 : Int)) rfl ek ek (decide_eq_true q361)) ?_
  refine F.es ?_
  refine h36 _ _ ?_
  refine wk fun K37 h37 => ?_
  refine wp_cond_true ek ?_
  refine wp_skip ?_
  refine h37 _ _ ?_
  refine wk fun K38 h38 => ?_
  refine wp_block ?_
  refine wk fun K39 h39 => ?_
  refine W.region_plain (row := none) [(0, false), (1, false), (2, false), (3, true), (4, false), (5, true)] kk ?_
  have s362 := SG.self wl0 none
  refine Fv (.int .i64 (i : Int)) ?_
  obtain ⟨x363, hx364⟩ := get_of (zs := vs) (k := i) (by have := hl2; omega)
  obtain ⟨b365, o366, hA367, hb368, hc369, hc370, hc371, hc372⟩ := Rd.elValve hb hx364
  refine Fq (.pointer (some ⟨b365, o366 + i * 4, none⟩)) (r_idx (n := n2) (c := c2) (k := i) rfl ek hA367 kk kk (by have := hl2; omega)) ?_
  refine Fq (.agg #[.int .i64 x363.id, .int .i64 x363.pipe, .int .i64 x363.node, .bool x363.shut]) (r_load4 rfl ek kk kk (sgS (later c360 hc369) (by simp)) (sgS (later c360 hc370) (by simp)) (sgS (later c360 hc371) (by simp)) (sgS (later c360 hc372) (by simp))) ?_
  refine W.sn (fun b => .pointer (some ⟨b, 0, none⟩)) #[.int .i64 0, .int .i64 0, .int .i64 0, .bool false] 40 s362 rfl kk rfl (fun _ => by kernel_rfl) (fun b373 w374 hb375 k376 x377 s378 => ?_)
  refine F.nx ?_
  have lo379 : w.heap.size ≤ b373 := Nat.le_trans ((SG.belowR c360 s362 (fun kq e => by cases e))).size (Nat.le_of_eq hb375)
  have nb382 : Nb b373 (.slice A0_8 n0_8 c0_8) := nb_hi ho0_8 (Nat.le_of_eq hb375)
  have ho383 := own_kept ho0_8 k376
  refine Fa (.int .i64 (i : Int)) ?_
  refine W.ss (v := .agg #[.int .i64 x363.id, .int .i64 x363.pipe, .int .i64 x363.node, .bool x363.shut]) (j := 0) (news := [.int .i64 x363.id, .int .i64 x363.pipe, .int .i64 x363.node, .bool x363.shut]) (cs' := #[.int .i64 x363.id, .int .i64 x363.pipe, .int .i64 x363.node, .bool x363.shut]) s378 rfl kk rfl rfl kk kk x377 kk kk (by simp) kk kk (.inr (Nat.le_trans (s362).size (Nat.le_of_eq hb375))) (fun w384 g385 x386 s387 => ?_)
  have ho388 := own_grown ho383 g385 (fun j e1 e2 => by cases e2; exact nb382 e1.symm)
  refine F.es ?_
  have x6 := SG.blk s387 x6 (Option.some_ne_none _)
  have c389 := (SG.belowR c360 s387 (fun kq e => by cases e))
  have rd390 := Rd.kept rd0_7 (SG.below s387)
  refine h39 _ _ ?_
  refine wk fun K40 h40 => ?_
  refine W.region_sch (row := none) (Sch.of [(0, false), (1, false), (2, false), (3, false), (4, false), (5, false), (6, false), (7, false), (8, false), (9, false), (12, false), (10, true), (11, true), (13, false), (14, false), (15, false)]) kk kk (fun _ d _ _ _ h => by cases d <;> exact h) kk (fun w391 e392 s393 => ?_)
  have ho394 := own_heap ho388 e392
  refine Fv (.pointer (some ⟨pb345, 0, none⟩)) ?_
  refine Fq (.pointer (some ⟨b373, 2, none⟩)) (r_field (k := 2) rfl ek kk) ?_
  refine Fl (.int .i64 x363.node) (sgS (blk_cell (j := 2) x386 kk) (Option.some_ne_none _)) ?_
  refine Fq (.pointer (some ⟨pb345, 0, none⟩)) (r_nilCheck rfl ek) ?_
  obtain ⟨kz, pz, ekz, hkz, hpz, hnz⟩ := hv9.place x363 (List.mem_of_getElem? hx364)
  have hgz := hg.at hpz
  obtain ⟨x395, hx396⟩ := get_of (zs := (wetL (linked ps (openQ vs false)) (9 + (findL ps a)))) (k := x363.node.toNat) (by have := hl347; omega)
  obtain ⟨hb397, hc398⟩ := Rd.elBool rd390 hx396
  refine Fq (.pointer (some ⟨pb345, x363.node.toNat, none⟩)) (r_idxA (len := 19) (k := x363.node.toNat) rfl ek (evk (z := x363.node) kk (by omega)) kk (by omega)) ?_
  refine Fl (.bool x395) (sgS hc398 (by simp)) ?_
  refine Fv (.pointer (some ⟨pb345, 0, none⟩)) ?_
  refine Fq (.agg #[.int .i64 m, .slice A n c]) (r_load2 rfl ek kk kk (sgS (blk_cell (j := 0) x6 kk) (Option.some_ne_none _)) (sgS (blk_cell (j := 1) x6 kk) (Option.some_ne_none _))) ?_
  refine Fq (.pointer (some ⟨b373, 1, none⟩)) (r_field (k := 1) rfl ek kk) ?_
  refine Fl (.int .i64 x363.pipe) (sgS (blk_cell (j := 1) x386 kk) (Option.some_ne_none _)) ?_
  refine Fq (.pointer (some ⟨pb345, 0, none⟩)) (r_nilCheck rfl ek) ?_
  refine Fc [.agg #[.int .i64 m, .slice A n c], .int .i64 x363.pipe] (pipeIndex_any m A n c ps x363.pipe _ (Rd.kept ha (SG.belowR c389 s393 (fun kq e => by cases e))) (by omega)) ?_
  rintro e w400 ⟨rfl, b399⟩
  have s401 := SG.of_below s393 b399
  refine ⟨_, rfl, s401, ?_⟩
  refine F.nx ?_
  have ho402 := own_kept ho394 b399
  refine Fc [.int .i64 (findL ps x363.pipe)] (element_any (findL ps x363.pipe) _ (by omega)) ?_
  rintro e w' ⟨rfl, rfl⟩
  refine ⟨_, rfl, s401, ?_⟩
  refine F.nx ?_
  obtain ⟨x405, hx406⟩ := get_of (zs := (wetL (linked ps (openQ vs false)) (9 + (findL ps a)))) (k := (9 + kz)) (by have := hl347; omega)
  obtain ⟨hb407, hc408⟩ := Rd.elBool rd390 hx406
  refine Fq (.pointer (some ⟨pb345, (9 + kz), none⟩)) (r_idxA (len := 19) (k := (9 + kz)) rfl ek (evk (z := 9 + (findL ps x363.pipe)) kk (by omega)) kk (by omega)) ?_
  refine Fl (.bool x405) (sgS hc408 (by simp)) ?_
  by_cases q409 : x395 = x405
  ·refine Fq (.bool false) (r_neqB (m := x395) (n := x405) rfl ek ek kk (by rw [(beq_iff_eq.2 q409)]; try rfl)) ?_
   refine F.es ?_
   have x6 := SG.blk s401 x6 (Option.some_ne_none _)
   have c410 := (SG.belowR c389 s401 (fun kq e => by cases e))
   have rd411 := Rd.kept rd390 (SG.below s401)
   refine h40 _ _ ?_
   refine wp_cond_false ek ?_
   refine wp_skip ?_
   refine h38 _ _ ?_
   refine W.region_quiet [(0, false), (1, false)] kk ?_
   refine Fq (.int .i64 ((i + 1 : Nat) : Int)) (r_add (m := (i : Int)) (n := 1) (z := ((i + 1 : Nat) : Int)) rfl ek ek (by omega) (by omega)) ?_
   refine Fv (.int .i64 ((i + 1 : Nat) : Int)) ?_
   refine F.es ?_
   exact h35 _ _ _ (by omega : (n2 - (i + 1)) < _) ⟨i + 1, A0_8, n0_8, c0_8, Kn.of, rfl, (by omega), (by omega), x6, (by rw [aroundI_no hx364 (by have h9 := wet_eqI (b := x363.node) hx396 (by omega); have h8 := wet_eqI (b := 9 + findL ps x363.pipe) hx406 (by omega); rw [← h9, ← h8]; exact q409)]; exact ho402), nb0_8_b2, rd411, sp0_7_8, c410⟩
  refine Fq (.bool true) (r_neqB (m := x395) (n := x405) rfl ek ek kk (by rw [(beq_eq_false_iff_ne.2 q409)]; try rfl)) ?_
  refine F.es ?_
  have x6 := SG.blk s401 x6 (Option.some_ne_none _)
  have c412 := (SG.belowR c389 s401 (fun kq e => by cases e))
  have rd413 := Rd.kept rd390 (SG.below s401)
  refine h40 _ _ ?_
  refine wp_cond_true ek ?_
  refine W.region_plain (row := (Value.ownBlock (.slice A0_8 n0_8 c0_8))) [(0, false), (1, false), (2, true), (3, true), (4, false)] kk ?_
  have s414 := SG.self w400 (Value.ownBlock (.slice A0_8 n0_8 c0_8))
  refine Fv (.slice A0_8 n0_8 c0_8) ?_
  refine Fv (.int .i64 (i : Int)) ?_
  refine W.sn (fun b => .slice (some ⟨b, 0, none⟩) 1 1) #[.int .i64 (i : Int)] 3 s414 rfl kk rfl (fun _ => by kernel_rfl) (fun b415 w416 hb417 k418 x419 s420 => ?_)
  refine F.nx ?_
  have lo421 : w.heap.size ≤ b415 := Nat.le_trans ((SG.belowR c412 s414 (fun kq e => (World.ownsRow.lt ho402 kq e).1))).size (Nat.le_of_eq hb417)
  have ho426 := own_kept ho402 k418
  refine W.sap (e := 3) (size := 1) (base := w.heap.size) (m := 1) (v := .slice A0_8 n0_8 c0_8) (c := 1) s420 rfl rfl rfl rfl kk kk kk ho426 x419 kk kk (by omega) (by omega) (by have := ((SG.belowR c412 s420 (fun kq e => (World.ownsRow.lt ho402 kq e).1))).size; omega) (.inl rfl) (fun g427 cap428 w429 ho430 hg431 hat432 hlt433 s434 => ?_)
  refine F.nx ?_
  have nb435 : Nb b2 (.slice (some ⟨g427, 0, none⟩) (n0_8 + 1) cap428) := nb_app nb0_8_b2 (Nat.lt_of_lt_of_le (blk_lt x6) (s420).size) hat432
  have ho430 := own_snoc ho430
  have sp438 := sp_app (v' := .slice (some ⟨g427, 0, none⟩) (n0_8 + 1) cap428) sp0_7_8 rd413 ((s420).size) (hat3 (v := .slice A0_8 n0_8 c0_8) hat432)
  refine Fa (.slice (some ⟨g427, 0, none⟩) (n0_8 + 1) cap428) ?_
  refine F.es ?_
  have x6 := SG.blk s434 x6 nb0_8_b2
  have c439 := (SG.belowR c412 s434 (fun kq e => (World.ownsRow.lt ho402 kq e).1))
  have rd440 := rd_sep rd413 s434 sp0_7_8
  refine h38 _ _ ?_
  refine W.region_quiet [(0, false), (1, false)] kk ?_
  refine Fq (.int .i64 ((i + 1 : Nat) : Int)) (r_add (m := (i : Int)) (n := 1) (z := ((i + 1 : Nat) : Int)) rfl ek ek (by omega) (by omega)) ?_
  refine Fv (.int .i64 ((i + 1 : Nat) : Int)) ?_
  refine F.es ?_
  exact h35 _ _ _ (by omega : (n2 - (i + 1)) < _) ⟨i + 1, (some ⟨g427, 0, none⟩), (n0_8 + 1), cap428, Kn.of, rfl, (by omega), (by omega), x6, (by rw [aroundI_yes hx364 (by have h9 := wet_eqI (b := x363.node) hx396 (by omega); have h8 := wet_eqI (b := 9 + findL ps x363.pipe) hx406 (by omega); rw [← h9, ← h8]; exact q409)]; exact ho430), nb435, rd440, sp438, c439⟩
 refine Fq (.bool false) (r_lss (m := (i : Int)) (n := (n2 : Int)) rfl ek ek (decide_eq_false q361)) ?_
 refine F.es ?_
 refine h36 _ _ ?_
 refine wk fun K41 h41 => ?_
 refine wp_cond_false ek ?_
 refine wp_exit ?_
 refine h33 _ _ ?_
 refine wk fun K42 h42 => ?_
 refine W.region_quiet [(0, false), (1, false)] kk ?_
 refine Fv (.slice A0_8 n0_8 c0_8) ?_
 refine Fa (.slice A0_8 n0_8 c0_8) ?_
 refine F.es ?_
 refine h42 _ _ ?_
 refine wp_ret ?_
 try simp only [Exit.then]
 refine ret1 (v := .slice A0_8 n0_8 c0_8) rfl kk ?_
 exact ⟨_, _, _, rfl, (by rw [show vs.length = i by omega]; exact ho0_8), c360⟩
set_option maxRecDepth 100000 in
set_option maxHeartbeats 8000000 in
theorem ValvesAround_impl (m : Int) (A : Option Addr) (n c : Nat) (ps : List Pp) (A2 : Option Addr) (n2 c2 : Nat) (vs : List Vv) (a : Int) (w : World) (ha : Rd w 4 A n (pipesV ps)) (hb : Rd w 4 A2 n2 (valvesV vs)) (hn : n ≤ 1048576) (hn2 : n2 ≤ 1048576) (hfm : Fm A n c) (hfm2 : Fm A2 n2 c2) :
    Calls Try.prog 16 #[.agg #[.int .i64 m, .slice A n c], .slice A2 n2 c2, .int .i64 a] w fun e w' => ∃ A' d, e = .returned (.tuple #[.slice A' (ValvesAround_v0 m ps vs a).length d, .bool (ValvesAround_v1 m ps vs a)]) ∧ w'.ownsRow w.heap.size 3 1 (.slice A' (ValvesAround_v0 m ps vs a).length d) (ValvesAround_v0 m ps vs a).length (intsV (ValvesAround_v0 m ps vs a)) ∧ Below w.heap.size w w' := by
 have hl := rd_pipes_len ha
 have hl2 := rd_valves_len hb
 have hfl := findL_lt ps a
 go_enter Try.func16, Try.ntmps16
 refine F.begin 41 [(0, .agg #[.int .i64 m, .slice A n c]), (1, .slice A2 n2 c2), (2, .int .i64 a)] (fun U0 => ?_)
 refine wk fun K1 h1 => ?_
 refine W.region_plain (row := none) [(0, true), (1, false), (2, false)] kk ?_
 have s1 := SG.self w none
 refine W.sn (fun b => .pointer (some ⟨b, 0, none⟩)) #[.int .i64 m, .slice A n c] 26 s1 rfl kk rfl (fun _ => by kernel_rfl) (fun b2 w3 hb4 k5 x6 s7 => ?_)
 refine F.nx ?_
 have lo8 : w.heap.size ≤ b2 := Nat.le_trans ((SG.belowR (Below.refl _ _) s1 (fun kq e => by cases e))).size (Nat.le_of_eq hb4)
 refine Fa (.slice none 0 0) ?_
 refine Fa (.bool false) ?_
 refine F.es ?_
 have c9 := (SG.belowR (Below.refl _ _) s7 (fun kq e => by cases e))
 refine h1 _ _ ?_
 refine wk fun K2 h2 => ?_
 refine wk fun K3 h3 => ?_
 refine W.region_plain (row := none) [(0, false), (1, false), (2, true), (3, false), (4, false), (5, false), (6, false), (7, true), (8, false), (9, false)] kk ?_
 have s10 := SG.self w3 none
 refine Fq (.agg #[.int .i64 m, .slice A n c]) (r_load2 rfl ek kk kk (sgS (blk_cell (j := 0) x6 kk) (Option.some_ne_none _)) (sgS (blk_cell (j := 1) x6 kk) (Option.some_ne_none _))) ?_
 refine Fv (.slice A2 n2 c2) ?_
 refine Fc [.agg #[.int .i64 m, .slice A n c], .slice A2 n2 c2] (IsValidValves_any m A n c ps A2 n2 c2 vs _ (Rd.kept ha (SG.belowR c9 s10 (fun kq e => by cases e))) (Rd.kept hb (SG.belowR c9 s10 (fun kq e => by cases e))) (by omega) (by omega) hfm2) ?_
 rintro e w12 ⟨rfl, b11⟩
 have s13 := SG.of_below s10 b11
 refine ⟨_, rfl, s13, ?_⟩
 refine F.nx ?_
 rcases Bool.eq_false_or_eq_true (goodV m ps vs) with q14 | q14
 ·rw [q14]
  have hv9 := goodV_of q14
  have hg := hv9.net
  have hgl := hg.lo
  have hgh := hg.hi
  have hp := hg.pipesIn
  have hlen10 := hg.len
  have hu := hv9.uniq
  have hvl := hv9.len
  refine Fq (.bool false) (r_not (b := true) rfl ek rfl) ?_
  refine Fv (.bool false) ?_
  refine Fq (.agg #[.int .i64 m, .slice A n c]) (r_load2 rfl ek kk kk (sgS (blk_cell (j := 0) x6 kk) (Option.some_ne_none _)) (sgS (blk_cell (j := 1) x6 kk) (Option.some_ne_none _))) ?_
  refine Fv (.int .i64 a) ?_
  refine Fc [.agg #[.int .i64 m, .slice A n c], .int .i64 a] (pipeIndex_any m A n c ps a _ (Rd.kept ha (SG.belowR c9 s13 (fun kq e => by cases e))) (by omega)) ?_
  rintro e w16 ⟨rfl, b15⟩
  have s17 := SG.of_below s13 b15
  refine ⟨_, rfl, s17, ?_⟩
  refine F.nx ?_
  by_cases q18 : (findL ps a : Int) < (0 : Int)
  ·refine Fq (.bool true) (r_lss (m := findL ps a) (n := 0) rfl ek ek (decide_eq_true q18)) ?_
   refine Fq (.bool true) (r_pick (b := false) rfl ek ek) ?_
   refine F.es ?_
   have x6 := SG.blk s17 x6 (Option.some_ne_none _)
   have c19 := (SG.belowR c9 s17 (fun kq e => by cases e))
   refine h3 _ _ ?_
   refine wp_cond_true ek ?_
   refine wk fun K4 h4 => ?_
   refine W.region_quiet [(0, false), (1, false)] kk ?_
   refine Fa (.slice none 0 0) ?_
   refine Fa (.bool false) ?_
   refine F.es ?_
   refine h4 _ _ ?_
   refine wp_ret ?_
   try simp only [Exit.then]
   refine ret2 (v := .slice none 0 0) (x := .bool false) rfl kk kk ?_
   have ok20 : ValvesAround_v1 m ps vs a = false := by unfold ValvesAround_v1; rw [decide_eq_false (by omega), Bool.and_false]
   exact fin_ints (zs := []) (World.ownsRow_nil _ _ _ _) (by unfold ValvesAround_v0; rw [if_neg (by rw [ok20]; simp)]) ok20.symm c19
  refine Fq (.bool false) (r_lss (m := findL ps a) (n := 0) rfl ek ek (decide_eq_false q18)) ?_
  refine Fq (.bool false) (r_pick (b := false) rfl ek ek) ?_
  refine F.es ?_
  have x6 := SG.blk s17 x6 (Option.some_ne_none _)
  have c21 := (SG.belowR c9 s17 (fun kq e => by cases e))
  refine h3 _ _ ?_
  refine wp_cond_false ek ?_
  refine wp_skip ?_
  refine h2 _ _ ?_
  refine wk fun K5 h5 => ?_
  refine W.region_plain (row := none) [(0, true), (1, false)] kk ?_
  have s22 := SG.self w16 none
  refine W.sn (fun b => .slice (some ⟨b, 0, none⟩) 0 0) #[] 3 s22 rfl kk rfl (fun _ => by kernel_rfl) (fun b23 w24 hb25 k26 x27 s28 => ?_)
  refine F.nx ?_
  have lo29 : w.heap.size ≤ b23 := Nat.le_trans ((SG.belowR c21 s22 (fun kq e => by cases e))).size (Nat.le_of_eq hb25)
  have ne30 : b2 ≠ b23 := Nat.ne_of_lt (Nat.lt_of_lt_of_eq (Nat.lt_of_lt_of_le (blk_lt x6) (s22).size) hb25)
  refine Fa (.slice (some ⟨b23, 0, none⟩) 0 0) ?_
  refine F.es ?_
  have x6 := SG.blk s28 x6 (Option.some_ne_none _)
  have c31 := (SG.belowR c21 s28 (fun kq e => by cases e))
  refine h5 _ _ ?_
  refine wk fun K6 h6 => ?_
  refine wk fun K7 h7 => ?_
  refine W.region_plain (row := none) [(0, false), (1, false), (2, false), (3, true), (4, false), (5, false)] kk ?_
  have s32 := SG.self w24 none
  refine Fq (.agg #[.int .i64 m, .slice A n c]) (r_load2 rfl ek kk kk (sgS (blk_cell (j := 0) x6 kk) (Option.some_ne_none _)) (sgS (blk_cell (j := 1) x6 kk) (Option.some_ne_none _))) ?_
  refine Fv (.slice A2 n2 c2) ?_
  refine Fv (.int .i64 a) ?_
  refine Fc [.agg #[.int .i64 m, .slice A n c], .slice A2 n2 c2, .int .i64 a] (valvesAround_any m A n c ps A2 n2 c2 vs a _ (Rd.kept ha (SG.belowR c31 s32 (fun kq e => by cases e))) (Rd.kept hb (SG.belowR c31 s32 (fun kq e => by cases e))) (by omega) (by omega) hv9 (by omega)) ?_
  rintro e w42 ⟨A33, n34, c35, rfl, ho36, b41⟩
  have s43 := SG.of_below s32 b41
  refine ⟨_, rfl, s43, ?_⟩
  refine F.nx ?_
  have rd37 := own_rd ho36
  have hl38 := rd_ints_len rd37
  have sp45 := sp_freshB (g := b23) ho36 (Nat.lt_of_lt_of_le (blk_lt x27) (World.grownBy.size s32))
  have := aroundI_len ps vs (9 + findL ps a) vs.length
  refine Fq (.int .i64 (n34 : Int)) (r_len (A := A33) (n := n34) (c := c35) rfl ek kk) ?_
  refine Fv (.int .i64 0) ?_
  refine F.es ?_
  have x6 := SG.blk s43 x6 (Option.some_ne_none _)
  have x27 := SG.blk s43 x27 (Option.some_ne_none _)
  have c46 := (SG.belowR c31 s43 (fun kq e => by cases e))
  refine h7 _ _ ?_
  refine wp_block ?_
  have ho47 := own_empty (base := w.heap.size) (size := 1) x27 lo29
  replace ho47 : World.ownsRow _ _ _ _ _ _ (intsV []) := ho47
  have sp48 := sp_own (n' := 0) (c := 0) sp45
  have nb49 : Nb b2 (.slice (some ⟨b23, 0, none⟩) 0 0) := nb_new ne30
  refine loopK (fun am0 aa0 wl0 => ∃ (i : Nat) (A0_8 : Option Addr) (n0_8 : Nat) (c0_8 : Nat) , Kn aa0 [(0, .agg #[.int .i64 m, .slice A n c]), (1, .slice A2 n2 c2), (2, .int .i64 a), (3, .pointer (some ⟨b2, 0, none⟩)), (6, .slice none 0 0), (7, .bool false), (8, .slice A0_8 n0_8 c0_8), (20, .bool false), (25, .slice A33 n34 c35), (26, .int .i64 (n34 : Int)), (27, .int .i64 (i : Int))] 41 ∧ (am0 = n34 - i) ∧ (i ≤ n34) ∧ (n0_8 ≤ i) ∧ (wl0.heap[b2]? = some (.cells #[.int .i64 m, .slice A n c] 26 (0, 0))) ∧ (wl0.ownsRow w.heap.size 3 1 (.slice A0_8 n0_8 c0_8) n0_8 (intsV (idsV vs ((aroundI ps vs (9 + findL ps a) vs.length).take i)))) ∧ (Nb b2 (.slice A0_8 n0_8 c0_8)) ∧ (Rd wl0 1 A33 n34 (intsV (aroundI ps vs (9 + findL ps a) vs.length))) ∧ (Sp A33 n34 (Value.ownBlock (.slice A0_8 n0_8 c0_8))) ∧ (Below w.heap.size w wl0)) (n34 - 0) ?_ ?_
  ·exact ⟨0, (some ⟨b23, 0, none⟩), 0, 0, Kn.of, rfl, (Nat.zero_le _), (Nat.zero_le _), x6, ho47, nb49, rd37, sp48, c46⟩
  rintro am0 aa0 wl0 K8 h8 ⟨i, A0_8, n0_8, c0_8, ⟨U0, rfl⟩, rfl, hi, hb8, x6, ho0_8, nb0_8_b2, rd0_25, sp0_25_8, c50⟩
  refine wk fun K9 h9 => ?_
  refine W.region_quiet [(0, false)] kk ?_
  by_cases q51 : ((i : Int) : Int) < ((n34 : Int) : Int)
  ·refine Fq (.bool true) (r_lss (m := (i : Int)) (n := (n34 : Int)) rfl ek ek (decide_eq_true q51)) ?_
   refine F.es ?_
   refine h9 _ _ ?_
   refine wk fun K10 h10 => ?_
   refine wp_cond_true ek ?_
   refine wp_skip ?_
   refine h10 _ _ ?_
   refine wk fun K11 h11 => ?_
   refine wp_block ?_
   refine wk fun K12 h12 => ?_
   refine W.region_quiet [(0, false), (1, false), (2, false)] kk ?_
   obtain ⟨x52, hx53⟩ := get_of (zs := (aroundI ps vs (9 + findL ps a) vs.length)) (k := i) (by have := hl38; omega)
   obtain ⟨b54, o55, hA56, hb57, hc58⟩ := Rd.elInt rd0_25 hx53
   refine Fq (.pointer (some ⟨b54, o55 + i, none⟩)) (r_idx1 (n := n34) (c := c35) (k := i) rfl ek hA56 kk kk (by have := hl38; omega)) ?_
   refine Fl (.int .i64 x52) (eqS hc58) ?_
   refine Fa (.int .i64 x52) ?_
   refine F.es ?_
   refine h12 _ _ ?_
   refine W.region_plain (row := (Value.ownBlock (.slice A0_8 n0_8 c0_8))) [(0, false), (1, false), (2, false), (3, false), (4, false), (5, false), (6, true), (7, true), (8, false)] kk ?_
   have s59 := SG.self wl0 (Value.ownBlock (.slice A0_8 n0_8 c0_8))
   refine Fv (.slice A0_8 n0_8 c0_8) ?_
   refine Fv (.slice A2 n2 c2) ?_
   refine Fv (.int .i64 x52) ?_
   have hy9 := aroundI_in (List.mem_of_getElem? hx53)
   obtain ⟨x60, hx61⟩ := get_of (zs := vs) (k := x52.toNat) (by have := hl2; omega)
   obtain ⟨b62, o63, hA64, hb65, hc66, hc67, hc68, hc69⟩ := Rd.elValve hb hx61
   refine Fq (.pointer (some ⟨b62, o63 + x52.toNat * 4, none⟩)) (r_idx (n := n2) (c := c2) (k := x52.toNat) rfl ek hA64 (evk (z := x52) kk (by omega)) kk (by have := hl2; omega)) ?_
   refine Fq (.pointer (some ⟨b62, o63 + x52.toNat * 4, none⟩)) (r_field0 rfl ek kk) ?_
   refine Fl (.int .i64 x60.id) (sgS (later c50 hc66) (nb_lo ho0_8 hb65)) ?_
   refine W.sn (fun b => .slice (some ⟨b, 0, none⟩) 1 1) #[.int .i64 x60.id] 3 s59 rfl kk rfl (fun _ => by kernel_rfl) (fun b70 w71 hb72 k73 x74 s75 => ?_)
   refine F.nx ?_
   have lo76 : w.heap.size ≤ b70 := Nat.le_trans ((SG.belowR c50 s59 (fun kq e => (World.ownsRow.lt ho0_8 kq e).1))).size (Nat.le_of_eq hb72)
   have ho80 := own_kept ho0_8 k73
   refine W.sap (e := 3) (size := 1) (base := w.heap.size) (m := 1) (v := .slice A0_8 n0_8 c0_8) (c := 1) s75 rfl rfl rfl rfl kk kk kk ho80 x74 kk kk (by omega) (by omega) (by have := ((SG.belowR c50 s75 (fun kq e => (World.ownsRow.lt ho0_8 kq e).1))).size; omega) (.inl rfl) (fun g81 cap82 w83 ho84 hg85 hat86 hlt87 s88 => ?_)
   refine F.nx ?_
   have nb89 : Nb b2 (.slice (some ⟨g81, 0, none⟩) (n0_8 + 1) cap82) := nb_app nb0_8_b2 (Nat.lt_of_lt_of_le (blk_lt x6) (s75).size) hat86
   have ho84 := own_snoc ho84
   have sp91 := sp_app (v' := .slice (some ⟨g81, 0, none⟩) (n0_8 + 1) cap82) sp0_25_8 rd0_25 ((s75).size) (hat3 (v := .slice A0_8 n0_8 c0_8) hat86)
   refine Fa (.slice (some ⟨g81, 0, none⟩) (n0_8 + 1) cap82) ?_
   refine F.es ?_
   have x6 := SG.blk s88 x6 nb0_8_b2
   have c92 := (SG.belowR c50 s88 (fun kq e => (World.ownsRow.lt ho0_8 kq e).1))
   have rd93 := rd_sep rd0_25 s88 sp0_25_8
   refine h11 _ _ ?_
   refine W.region_quiet [(0, false), (1, false)] kk ?_
   refine Fq (.int .i64 ((i + 1 : Nat) : Int)) (r_add (m := (i : Int)) (n := 1) (z := ((i + 1 : Nat) : Int)) rfl ek ek (by omega) (by omega)) ?_
   refine Fv (.int .i64 ((i + 1 : Nat) : Int)) ?_
   refine F.es ?_
   exact h8 _ _ _ (by omega : (n34 - (i + 1)) < _) ⟨i + 1, (some ⟨g81, 0, none⟩), (n0_8 + 1), cap82, Kn.of, rfl, (by omega), (by omega), x6, (by rw [idsV_take hx53 hx61]; exact ho84), nb89, rd93, sp91, c92⟩
  refine Fq (.bool false) (r_lss (m := (i : Int)) (n := (n34 : Int)) rfl ek ek (decide_eq_false q51)) ?_
  refine F.es ?_
  refine h9 _ _ ?_
  refine wk fun K13 h13 => ?_
  refine wp_cond_false ek ?_
  refine wp_exit ?_
  refine h6 _ _ ?_
  refine wk fun K14 h14 => ?_
  refine W.region_quiet [(0, false), (1, false), (2, false)] kk ?_
  refine Fv (.slice A0_8 n0_8 c0_8) ?_
  refine Fa (.slice A0_8 n0_8 c0_8) ?_
  refine Fa (.bool true) ?_
  refine F.es ?_
  refine h14 _ _ ?_
  refine wp_ret ?_
  try simp only [Exit.then]
  refine ret2 (v := .slice A0_8 n0_8 c0_8) (x := .bool true) rfl kk kk ?_
  have ok94 : ValvesAround_v1 m ps vs a = true := by unfold ValvesAround_v1; rw [q14, decide_eq_true (by omega)]; try rfl
  exact fin_ints  ho0_8 (by unfold ValvesAround_v0; rw [if_pos ok94, List.take_of_length_le (by omega)]) ok94.symm c50
 rw [q14]
 refine Fq (.bool true) (r_not (b := false) rfl ek rfl) ?_
 refine Fv (.bool true) ?_
 refine Fs s13 ?_
 refine Fs s13 ?_
 refine Fs s13 ?_
 refine Fs s13 ?_
 refine Fq (.bool true) (r_pick (b := true) rfl ek ek) ?_
 refine F.es ?_
 have c95 := (SG.belowR c9 s13 (fun kq e => by cases e))
 refine h3 _ _ ?_
 refine wp_cond_true ek ?_
 refine wk fun K15 h15 => ?_
 refine W.region_quiet [(0, false), (1, false)] kk ?_
 refine Fa (.slice none 0 0) ?_
 refine Fa (.bool false) ?_
 refine F.es ?_
 refine h15 _ _ ?_
 refine wp_ret ?_
 try simp only [Exit.then]
 refine ret2 (v := .slice none 0 0) (x := .bool false) rfl kk kk ?_
 have ok96 : ValvesAround_v1 m ps vs a = false := by unfold ValvesAround_v1; rw [q14]; try rfl
 exact fin_ints (zs := []) (World.ownsRow_nil _ _ _ _) (by unfold ValvesAround_v0; rw [if_neg (by rw [ok96]; simp)]) ok96.symm c95
end Go.Proofs.Ytdbgfejeleafgaa
